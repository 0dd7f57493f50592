/- The small code of what the statement reaches, and what it comes to with names for slots. -/
import Derived.Test.YtmhdapjmndfkgaaGreatSk0
namespace Go.Proofs.YtmhdapjmndfkgaaGreat.Sk
open Go Go.Proofs.YtmhdapjmndfkgaaGreat.Eng
set_option linter.unusedVariables false
def k_slices_Concat_Lstring_string__0 : List Nat := [9, 0, 10, 11, 3, 2, 24, 33]
def c_slices_Concat_Lstring_string__b0 : CC := .seq (.reg [] [
  ⟨(some 12), none, .bin .lss (.t 11) (.t 10)⟩]) (
  .seq (.cond (.t 12) (
  .skip) (
  .exit 0)) (
  .seq (.block 1 (
  .seq (.reg [] [
  ⟨(some 13), none, .ias 1 (.t 9) (.t 11)⟩,
  ⟨(some 14), none, .ld false 1 (.t 13)⟩,
  ⟨(some 5), none, .mv (.t 14)⟩]) (
  .seq (.reg [] [
  ⟨(some 15), none, .mv (.t 3)⟩,
  ⟨(some 16), none, .mv (.t 5)⟩,
  ⟨(some 17), none, .len false (.t 16)⟩,
  ⟨(some 18), none, .bin .add (.t 15) (.t 17)⟩,
  ⟨(some 3), none, .mv (.t 18)⟩]) (
  .seq (.reg [] [
  ⟨(some 19), none, .mv (.t 3)⟩,
  ⟨(some 20), none, .bin .lss (.t 19) (.c (.v (.int .i64 0)))⟩]) (
  .cond (.t 20) (
  .reg [] [
  ⟨(some 21), none, .mki 9 (.c (.v (.string ⟨#[108, 101, 110, 32, 111, 117, 116, 32, 111, 102, 32, 114, 97, 110, 103, 101]⟩)))⟩,
  ⟨none, none, .bad⟩]) (
  .skip)))))) (
  .reg [] [
  ⟨(some 22), none, .bin .add (.t 11) (.c (.v (.int .i64 1)))⟩,
  ⟨(some 11), none, .mv (.t 22)⟩])))
def k_slices_Concat_Lstring_string__1 : List Nat := [25, 26, 27, 6, 2, 24]
def c_slices_Concat_Lstring_string__b1 : CC := .seq (.reg [] [
  ⟨(some 28), none, .bin .lss (.t 27) (.t 26)⟩]) (
  .seq (.cond (.t 28) (
  .skip) (
  .exit 2)) (
  .seq (.block 3 (
  .seq (.reg [] [
  ⟨(some 29), none, .ias 1 (.t 25) (.t 27)⟩,
  ⟨(some 30), none, .ld false 1 (.t 29)⟩,
  ⟨(some 8), none, .mv (.t 30)⟩]) (
  .reg [] [
  ⟨(some 31), none, .mv (.t 6)⟩,
  ⟨(some 32), none, .mv (.t 8)⟩,
  ⟨(some 33), none, .app false 1 16 (.t 31) (.t 32)⟩,
  ⟨(some 6), none, .mv (.t 33)⟩]))) (
  .reg [] [
  ⟨(some 34), none, .bin .add (.t 27) (.c (.v (.int .i64 1)))⟩,
  ⟨(some 27), none, .mv (.t 34)⟩])))
def c_slices_Concat_Lstring_string__s0 : CC := .seq (.reg [] [
  ⟨(some 35), none, .mv (.t 6)⟩,
  ⟨(some 2), none, .mv (.t 35)⟩]) (
  .ret)
def c_slices_Concat_Lstring_string__s1 : CC := .seq (.reg [] [
  ⟨(some 23), none, .mv (.t 3)⟩,
  ⟨(some 24), none, .call true i_slices_Grow_Lstring_string_ [(.c (.v (.slice none 0 0))), (.t 23)]⟩,
  ⟨(some 6), none, .mv (.t 24)⟩]) (
  .seq (.seq (.reg [] [
  ⟨(some 25), none, .mv (.t 0)⟩,
  ⟨(some 26), none, .len false (.t 25)⟩,
  ⟨(some 27), none, .mv (.c (.v (.int .i64 0)))⟩]) (
  .block 2 (
  .loop k_slices_Concat_Lstring_string__1 c_slices_Concat_Lstring_string__b1))) c_slices_Concat_Lstring_string__s0)
def c_slices_Concat_Lstring_string_ : CF := ⟨1, 36,
  .seq (.reg [] [
  ⟨(some 2), none, .nil 1⟩]) (
  .seq (.reg [] [
  ⟨(some 3), none, .mv (.c (.v (.int .i64 0)))⟩]) (
  .seq (.seq (.reg [] [
  ⟨(some 9), none, .mv (.t 0)⟩,
  ⟨(some 10), none, .len false (.t 9)⟩,
  ⟨(some 11), none, .mv (.c (.v (.int .i64 0)))⟩]) (
  .block 0 (
  .loop k_slices_Concat_Lstring_string__0 c_slices_Concat_Lstring_string__b0))) c_slices_Concat_Lstring_string__s1)),
  [.t 2]⟩
def v_slices_Concat_Lstring_string_ : List Nat := []
def R_slices_Concat_Lstring_string__1 (call : Eng.Call) (G : Nat → AV) (n m1 : Nat) (o : Objs) (y25 y26 y27 y6 y2 y24 : AV) : Out := roundsE k_slices_Concat_Lstring_string__1 (denE 36 call G v_slices_Concat_Lstring_string_ n c_slices_Concat_Lstring_string__b1) m1 [y25, y26, y27, y6, y2, y24] o (eBlock 2 (eSeq (denE 36 call G v_slices_Concat_Lstring_string_ n c_slices_Concat_Lstring_string__s0) (eEnd [.t 2])))
def R_slices_Concat_Lstring_string__0 (call : Eng.Call) (G : Nat → AV) (n m0 : Nat) (o : Objs) (y9 y0 y10 y11 y3 y2 y24 y33 : AV) : Out := roundsE k_slices_Concat_Lstring_string__0 (denE 36 call G v_slices_Concat_Lstring_string_ n c_slices_Concat_Lstring_string__b0) m0 [y9, y0, y10, y11, y3, y2, y24, y33] o (eBlock 0 (eSeq (denE 36 call G v_slices_Concat_Lstring_string_ n c_slices_Concat_Lstring_string__s1) (eEnd [.t 2])))
def J_slices_Concat_Lstring_string__0 (call : Eng.Call) (G : Nat → AV) (n m0 : Nat) (oJ : Objs) (z0z z2z z3z z9z z10z z11z z24z z33z : AV) : Out :=
 Xq (.bin .add (.c z11z) (.c (.v (.int .i64 1)))) (fun x4 =>
 R_slices_Concat_Lstring_string__0 call G n m0 (maskO k_slices_Concat_Lstring_string__0 oJ) (msk k_slices_Concat_Lstring_string__0 z9z) (msk k_slices_Concat_Lstring_string__0 z0z) (msk k_slices_Concat_Lstring_string__0 z10z) (msk k_slices_Concat_Lstring_string__0 x4) (msk k_slices_Concat_Lstring_string__0 z3z) (msk k_slices_Concat_Lstring_string__0 z2z) (msk k_slices_Concat_Lstring_string__0 z24z) (msk k_slices_Concat_Lstring_string__0 z33z)) ()
set_option maxRecDepth 100000 in
theorem R_slices_Concat_Lstring_string__1_s (call : Eng.Call) (G : Nat → AV) (n m1 : Nat) (o : Objs) (y25 y26 y27 y6 y2 y24 : AV) : R_slices_Concat_Lstring_string__1 call G n (m1 + 1) o y25 y26 y27 y6 y2 y24 =
 Xq (.bin .lss (.c y27) (.c y26)) (fun x13 =>
 Xc x13 (fun _ =>
 Xq (.ias 1 (.c y25) (.c y27)) (fun x14 =>
 Xx call o 30 (.ld false 1 (.c x14)) (fun x15 ox15 =>
 Xa ox15 33 false 1 16 y6 x15 (fun x16 ox16 =>
 Xq (.bin .add (.c y27) (.c (.v (.int .i64 1)))) (fun x17 =>
 R_slices_Concat_Lstring_string__1 call G n m1 (maskO k_slices_Concat_Lstring_string__1 ox16) (msk k_slices_Concat_Lstring_string__1 y25) (msk k_slices_Concat_Lstring_string__1 y26) (msk k_slices_Concat_Lstring_string__1 x17) (msk k_slices_Concat_Lstring_string__1 x16) (msk k_slices_Concat_Lstring_string__1 y2) (msk k_slices_Concat_Lstring_string__1 y24)) ()) ()) ()) ()) (fun _ =>
 Xr o [some y6]) () ()) () := by kernel_rfl
set_option maxRecDepth 100000 in
theorem R_slices_Concat_Lstring_string__0_s (call : Eng.Call) (G : Nat → AV) (n m0 : Nat) (o : Objs) (y9 y0 y10 y11 y3 y2 y24 y33 : AV) : R_slices_Concat_Lstring_string__0 call G n (m0 + 1) o y9 y0 y10 y11 y3 y2 y24 y33 =
 Xq (.bin .lss (.c y11) (.c y10)) (fun x3 =>
 Xc x3 (fun _ =>
 Xq (.ias 1 (.c y9) (.c y11)) (fun x5 =>
 Xx call o 14 (.ld false 1 (.c x5)) (fun x6 ox6 =>
 Xq (.len false (.c x6)) (fun x7 =>
 Xq (.bin .add (.c y3) (.c x7)) (fun x8 =>
 Xq (.bin .lss (.c x8) (.c (.v (.int .i64 0)))) (fun x9 =>
 Xc x9 (fun _ =>
 Xx call ox6 21 (.mki 9 (.c (.v (.string ⟨#[108, 101, 110, 32, 111, 117, 116, 32, 111, 102, 32, 114, 97, 110, 103, 101]⟩)))) (fun x10 ox10 =>
 none) ()) (fun _ =>
 J_slices_Concat_Lstring_string__0 call G n m0 ox6 y0 y2 x8 y9 y10 y11 y24 y33) () ()) ()) ()) ()) ()) ()) (fun _ =>
 Xx call o 24 (.call true i_slices_Grow_Lstring_string_ [(.c (.v (.slice none 0 0))), (.c y3)]) (fun x11 ox11 =>
 Xq (.len false (.c y0)) (fun x12 =>
 R_slices_Concat_Lstring_string__1 call G n n (maskO k_slices_Concat_Lstring_string__1 ox11) (msk k_slices_Concat_Lstring_string__1 y0) (msk k_slices_Concat_Lstring_string__1 x12) (msk k_slices_Concat_Lstring_string__1 (.v (.int .i64 0))) (msk k_slices_Concat_Lstring_string__1 x11) (msk k_slices_Concat_Lstring_string__1 y2) (msk k_slices_Concat_Lstring_string__1 x11)) ()) ()) () ()) () := by kernel_rfl
set_option maxRecDepth 100000 in
theorem s_slices_Concat_Lstring_string_ (call : Eng.Call) (G : Nat → AV) (n : Nat) (x0 : AV) : denFE call G v_slices_Concat_Lstring_string_ n c_slices_Concat_Lstring_string_ [x0] =
 Xx call [] 2 (.nil 1) (fun x1 ox1 =>
 Xq (.len false (.c x0)) (fun x2 =>
 R_slices_Concat_Lstring_string__0 call G n n (maskO k_slices_Concat_Lstring_string__0 ox1) (msk k_slices_Concat_Lstring_string__0 x0) (msk k_slices_Concat_Lstring_string__0 x0) (msk k_slices_Concat_Lstring_string__0 x2) (msk k_slices_Concat_Lstring_string__0 (.v (.int .i64 0))) (msk k_slices_Concat_Lstring_string__0 (.v (.int .i64 0))) (msk k_slices_Concat_Lstring_string__0 x1) (msk k_slices_Concat_Lstring_string__0 .undef) (msk k_slices_Concat_Lstring_string__0 .undef)) ()) () := by kernel_rfl
def k_ref15_Enum_0 : List Nat := [5, 1, 2]
def c_ref15_Enum_b0 : CC := .seq (.seq (.reg [] [
  ⟨(some 6), none, .mv (.t 5)⟩,
  ⟨(some 7), none, .fad (.t 2) 0⟩,
  ⟨(some 8), none, .ld false 1 (.t 7)⟩,
  ⟨(some 9), none, .len false (.t 8)⟩,
  ⟨(some 10), none, .bin .lss (.t 6) (.t 9)⟩]) (
  .cond (.t 10) (
  .skip) (
  .exit 0))) (
  .seq (.block 1 (
  .seq (.reg [] [
  ⟨(some 13), none, .fad (.t 2) 0⟩,
  ⟨(some 14), none, .ld false 1 (.t 13)⟩,
  ⟨(some 15), none, .mv (.t 5)⟩,
  ⟨(some 16), none, .ias 2 (.t 14) (.t 15)⟩,
  ⟨(some 17), none, .fad (.t 16) 0⟩,
  ⟨(some 18), none, .ld false 1 (.t 17)⟩,
  ⟨(some 19), none, .mv (.t 1)⟩,
  ⟨(some 20), none, .bin .eql (.t 18) (.t 19)⟩]) (
  .cond (.t 20) (
  .seq (.reg [] [
  ⟨(some 21), none, .mv (.t 5)⟩,
  ⟨(some 4), none, .mv (.t 21)⟩]) (
  .ret)) (
  .skip)))) (
  .reg [] [
  ⟨(some 11), none, .mv (.t 5)⟩,
  ⟨(some 12), none, .bin .add (.t 11) (.c (.v (.int .i64 1)))⟩,
  ⟨(some 5), none, .mv (.t 12)⟩]))
def c_ref15_Enum_s0 : CC := .seq (.reg [] [
  ⟨(some 4), none, .mv (.c (.v (.int .i64 (-1))))⟩]) (
  .ret)
def c_ref15_Enum : CF := ⟨2, 22,
  .seq (.reg [] [
  ⟨(some 2), none, .box 2 [2, 3] (.t 0)⟩,
  ⟨(some 4), none, .mv (.c (.v (.int .i64 0)))⟩]) (
  .seq (.seq (.reg [] [
  ⟨(some 5), none, .mv (.c (.v (.int .i64 0)))⟩]) (
  .block 0 (
  .loop k_ref15_Enum_0 c_ref15_Enum_b0))) c_ref15_Enum_s0),
  [.t 4]⟩
def v_ref15_Enum : List Nat := []
def R_ref15_Enum_0 (call : Eng.Call) (G : Nat → AV) (n m0 : Nat) (o : Objs) (y5 y1 y2 : AV) : Out := roundsE k_ref15_Enum_0 (denE 22 call G v_ref15_Enum n c_ref15_Enum_b0) m0 [y5, y1, y2] o (eBlock 0 (eSeq (denE 22 call G v_ref15_Enum n c_ref15_Enum_s0) (eEnd [.t 4])))
set_option maxRecDepth 100000 in
theorem R_ref15_Enum_0_s (call : Eng.Call) (G : Nat → AV) (n m0 : Nat) (o : Objs) (y5 y1 y2 : AV) : R_ref15_Enum_0 call G n (m0 + 1) o y5 y1 y2 =
 Xq (.fad (.c y2) 0) (fun x3 =>
 Xx call o 8 (.ld false 1 (.c x3)) (fun x4 ox4 =>
 Xq (.len false (.c x4)) (fun x5 =>
 Xq (.bin .lss (.c y5) (.c x5)) (fun x6 =>
 Xc x6 (fun _ =>
 Xq (.fad (.c y2) 0) (fun x7 =>
 Xx call ox4 14 (.ld false 1 (.c x7)) (fun x8 ox8 =>
 Xq (.ias 2 (.c x8) (.c y5)) (fun x9 =>
 Xq (.fad (.c x9) 0) (fun x10 =>
 Xx call ox8 18 (.ld false 1 (.c x10)) (fun x11 ox11 =>
 Xq (.bin .eql (.c x11) (.c y1)) (fun x12 =>
 Xc x12 (fun _ =>
 Xr ox11 [some y5]) (fun _ =>
 Xq (.bin .add (.c y5) (.c (.v (.int .i64 1)))) (fun x13 =>
 R_ref15_Enum_0 call G n m0 (maskO k_ref15_Enum_0 ox11) (msk k_ref15_Enum_0 x13) (msk k_ref15_Enum_0 y1) (msk k_ref15_Enum_0 y2)) ()) () ()) ()) ()) ()) ()) ()) ()) (fun _ =>
 Xr ox4 [some (.v (.int .i64 (-1)))]) () ()) ()) ()) ()) () := by kernel_rfl
set_option maxRecDepth 100000 in
theorem s_ref15_Enum (call : Eng.Call) (G : Nat → AV) (n : Nat) (x0 x1 : AV) : denFE call G v_ref15_Enum n c_ref15_Enum [x0, x1] =
 Xx call [] 2 (.box 2 [2, 3] (.c x0)) (fun x2 ox2 =>
 R_ref15_Enum_0 call G n n (maskO k_ref15_Enum_0 ox2) (msk k_ref15_Enum_0 (.v (.int .i64 0))) (msk k_ref15_Enum_0 x1) (msk k_ref15_Enum_0 x2)) () := by kernel_rfl
def c_schema_eachEnum : CF := ⟨2, 9,
  .seq (.reg [] [
  ⟨(some 2), none, .box 2 [2, 3] (.t 0)⟩,
  ⟨(some 4), none, .mv (.c (.v (.bool false)))⟩]) (
  .seq (.reg [] [
  ⟨(some 5), none, .fad (.t 2) 0⟩,
  ⟨(some 6), none, .ld false 1 (.t 5)⟩,
  ⟨(some 7), none, .mv (.t 1)⟩,
  ⟨(some 8), none, .call false i_slices_ContainsFunc_Lapi_Enum_api_Enum_ [(.t 6), (.t 7)]⟩,
  ⟨(some 4), none, .mv (.t 8)⟩]) (
  .ret)),
  [.t 4]⟩
def v_schema_eachEnum : List Nat := []
set_option maxRecDepth 100000 in
theorem s_schema_eachEnum (call : Eng.Call) (G : Nat → AV) (n : Nat) (x0 x1 : AV) : denFE call G v_schema_eachEnum n c_schema_eachEnum [x0, x1] =
 Xx call [] 2 (.box 2 [2, 3] (.c x0)) (fun x2 ox2 =>
 Xq (.fad (.c x2) 0) (fun x3 =>
 Xx call ox2 6 (.ld false 1 (.c x3)) (fun x4 ox4 =>
 Xx call ox4 8 (.call false i_slices_ContainsFunc_Lapi_Enum_api_Enum_ [(.c x4), (.c x1)]) (fun x5 ox5 =>
 Xr ox5 [some x5]) ()) ()) ()) () := by kernel_rfl
def c_schema_many_1 : CF := ⟨1, 7,
  .seq (.reg [] [
  ⟨(some 1), none, .box 2 [0, 2] (.t 0)⟩,
  ⟨(some 2), none, .mv (.c (.v (.bool false)))⟩]) (
  .seq (.reg [] [
  ⟨(some 3), none, .fad (.t 1) 1⟩,
  ⟨(some 4), none, .ld false 1 (.t 3)⟩,
  ⟨(some 5), none, .len false (.t 4)⟩,
  ⟨(some 6), none, .bin .gtr (.t 5) (.c (.v (.int .i64 8)))⟩,
  ⟨(some 2), none, .mv (.t 6)⟩]) (
  .ret)),
  [.t 2]⟩
def v_schema_many_1 : List Nat := []
set_option maxRecDepth 100000 in
theorem s_schema_many_1 (call : Eng.Call) (G : Nat → AV) (n : Nat) (x0 : AV) : denFE call G v_schema_many_1 n c_schema_many_1 [x0] =
 Xx call [] 1 (.box 2 [0, 2] (.c x0)) (fun x1 ox1 =>
 Xq (.fad (.c x1) 1) (fun x2 =>
 Xx call ox1 4 (.ld false 1 (.c x2)) (fun x3 ox3 =>
 Xq (.len false (.c x3)) (fun x4 =>
 Xq (.bin .gtr (.c x4) (.c (.v (.int .i64 8)))) (fun x5 =>
 Xr ox3 [some x5]) ()) ()) ()) ()) () := by kernel_rfl
def c_schema_eachMessage : CF := ⟨2, 9,
  .seq (.reg [] [
  ⟨(some 2), none, .box 2 [2, 3] (.t 0)⟩,
  ⟨(some 4), none, .mv (.c (.v (.bool false)))⟩]) (
  .seq (.reg [] [
  ⟨(some 5), none, .fad (.t 2) 1⟩,
  ⟨(some 6), none, .ld false 1 (.t 5)⟩,
  ⟨(some 7), none, .mv (.t 1)⟩,
  ⟨(some 8), none, .call false i_slices_ContainsFunc_Lapi_Message_api_Message_ [(.t 6), (.t 7)]⟩,
  ⟨(some 4), none, .mv (.t 8)⟩]) (
  .ret)),
  [.t 4]⟩
def v_schema_eachMessage : List Nat := []
set_option maxRecDepth 100000 in
theorem s_schema_eachMessage (call : Eng.Call) (G : Nat → AV) (n : Nat) (x0 x1 : AV) : denFE call G v_schema_eachMessage n c_schema_eachMessage [x0, x1] =
 Xx call [] 2 (.box 2 [2, 3] (.c x0)) (fun x2 ox2 =>
 Xq (.fad (.c x2) 1) (fun x3 =>
 Xx call ox2 6 (.ld false 1 (.c x3)) (fun x4 ox4 =>
 Xx call ox4 8 (.call false i_slices_ContainsFunc_Lapi_Message_api_Message_ [(.c x4), (.c x1)]) (fun x5 ox5 =>
 Xr ox5 [some x5]) ()) ()) ()) () := by kernel_rfl
def c_schema_many_2 : CF := ⟨1, 13,
  .seq (.reg [] [
  ⟨(some 1), none, .box 3 [0, 7, 1] (.t 0)⟩,
  ⟨(some 2), none, .mv (.c (.v (.bool false)))⟩]) (
  .seq (.reg [] [
  ⟨(some 3), none, .fad (.t 1) 1⟩,
  ⟨(some 4), none, .ld false 1 (.t 3)⟩,
  ⟨(some 5), none, .len false (.t 4)⟩,
  ⟨(some 6), none, .bin .gtr (.t 5) (.c (.v (.int .i64 10)))⟩,
  ⟨(some 7), none, .mv (.t 6)⟩,
  ⟨(some 8), (some (7, false)), .fad (.t 1) 2⟩,
  ⟨(some 9), (some (7, false)), .ld false 1 (.t 8)⟩,
  ⟨(some 10), (some (7, false)), .len false (.t 9)⟩,
  ⟨(some 11), (some (7, false)), .bin .gtr (.t 10) (.c (.v (.int .i64 8)))⟩,
  ⟨(some 12), none, .pick (.t 7) (.c (.v (.bool true))) (.t 11)⟩,
  ⟨(some 2), none, .mv (.t 12)⟩]) (
  .ret)),
  [.t 2]⟩
def v_schema_many_2 : List Nat := []
set_option maxRecDepth 100000 in
theorem s_schema_many_2 (call : Eng.Call) (G : Nat → AV) (n : Nat) (x0 : AV) : denFE call G v_schema_many_2 n c_schema_many_2 [x0] =
 Xx call [] 1 (.box 3 [0, 7, 1] (.c x0)) (fun x1 ox1 =>
 Xq (.fad (.c x1) 1) (fun x2 =>
 Xx call ox1 4 (.ld false 1 (.c x2)) (fun x3 ox3 =>
 Xq (.len false (.c x3)) (fun x4 =>
 Xq (.bin .gtr (.c x4) (.c (.v (.int .i64 10)))) (fun x5 =>
 Xgq x5 false (.fad (.c x1) 2) (fun x6 =>
 Xxg call x5 false ox3 9 (.ld false 1 (.c x6)) (fun x7 ox7 =>
 Xgq x5 false (.len false (.c x7)) (fun x8 =>
 Xgq x5 false (.bin .gtr (.c x8) (.c (.v (.int .i64 8)))) (fun x9 =>
 Xq (.pick (.c x5) (.c (.v (.bool true))) (.c x9)) (fun x10 =>
 Xr ox7 [some x10]) ()) ()) ()) ()) ()) ()) ()) ()) ()) () := by kernel_rfl
def c_schema_none_1 : CF := ⟨1, 7,
  .seq (.reg [] [
  ⟨(some 1), none, .box 2 [0, 2] (.t 0)⟩,
  ⟨(some 2), none, .mv (.c (.v (.bool false)))⟩]) (
  .seq (.reg [] [
  ⟨(some 3), none, .fad (.t 1) 1⟩,
  ⟨(some 4), none, .ld false 1 (.t 3)⟩,
  ⟨(some 5), none, .len false (.t 4)⟩,
  ⟨(some 6), none, .bin .eql (.t 5) (.c (.v (.int .i64 0)))⟩,
  ⟨(some 2), none, .mv (.t 6)⟩]) (
  .ret)),
  [.t 2]⟩
def v_schema_none_1 : List Nat := []
set_option maxRecDepth 100000 in
theorem s_schema_none_1 (call : Eng.Call) (G : Nat → AV) (n : Nat) (x0 : AV) : denFE call G v_schema_none_1 n c_schema_none_1 [x0] =
 Xx call [] 1 (.box 2 [0, 2] (.c x0)) (fun x1 ox1 =>
 Xq (.fad (.c x1) 1) (fun x2 =>
 Xx call ox1 4 (.ld false 1 (.c x2)) (fun x3 ox3 =>
 Xq (.len false (.c x3)) (fun x4 =>
 Xq (.bin .eql (.c x4) (.c (.v (.int .i64 0)))) (fun x5 =>
 Xr ox3 [some x5]) ()) ()) ()) ()) () := by kernel_rfl
def c_schema_misnamed_1 : CF := ⟨1, 6,
  .seq (.reg [] [
  ⟨(some 2), none, .mv (.c (.v (.bool false)))⟩]) (
  .seq (.reg [] [
  ⟨(some 3), none, .mv (.t 0)⟩,
  ⟨(some 4), none, .call false i_ident_Right [(.t 3)]⟩,
  ⟨(some 5), none, .not (.t 4)⟩,
  ⟨(some 2), none, .mv (.t 5)⟩]) (
  .ret)),
  [.t 2]⟩
def v_schema_misnamed_1 : List Nat := []
set_option maxRecDepth 100000 in
theorem s_schema_misnamed_1 (call : Eng.Call) (G : Nat → AV) (n : Nat) (x0 : AV) : denFE call G v_schema_misnamed_1 n c_schema_misnamed_1 [x0] =
 Xx call [] 4 (.call false i_ident_Right [(.c x0)]) (fun x1 ox1 =>
 Xq (.not (.c x1)) (fun x2 =>
 Xr ox1 [some x2]) ()) () := by kernel_rfl
def c_schema_misnamed_2 : CF := ⟨2, 14,
  .seq (.reg [] [
  ⟨(some 2), none, .box 2 [0, 2] (.t 0)⟩,
  ⟨(some 3), none, .mv (.c (.v (.bool false)))⟩]) (
  .seq (.reg [
  ⟨(some 4), none, .ld false 1 (.t 1)⟩,
  ⟨(some 5), none, .fad (.t 2) 0⟩,
  ⟨(some 6), none, .ld false 1 (.t 5)⟩,
  ⟨(some 7), none, .cal false (.t 4) [(.t 6)]⟩,
  ⟨(some 8), none, .mv (.t 7)⟩,
  ⟨(some 9), (some (8, false)), .ld true 2 (.t 2)⟩,
  ⟨(some 10), (some (8, false)), .call false i_schema_valueNames [(.t 9)]⟩,
  ⟨(some 11), (some (8, false)), .ld false 1 (.t 1)⟩] [
  ⟨(some 12), (some (8, false)), .call false i_slices_ContainsFunc_Lstring_string_ [(.t 10), (.t 11)]⟩,
  ⟨(some 13), none, .pick (.t 8) (.c (.v (.bool true))) (.t 12)⟩,
  ⟨(some 3), none, .mv (.t 13)⟩]) (
  .ret)),
  [.t 3]⟩
def v_schema_misnamed_2 : List Nat := []
set_option maxRecDepth 100000 in
theorem s_schema_misnamed_2 (call : Eng.Call) (G : Nat → AV) (n : Nat) (x0 x1 : AV) : denFE call G v_schema_misnamed_2 n c_schema_misnamed_2 [x0, x1] =
 Xx call [] 2 (.box 2 [0, 2] (.c x0)) (fun x2 ox2 =>
 Xp call ox2 4 (.ld false 1 (.c x1)) (fun x3 nx3 sx3 =>
 Xq (.fad (.c x2) 0) (fun x4 =>
 Xp call ox2 6 (.ld false 1 (.c x4)) (fun x5 nx5 sx5 =>
 Xp call ox2 7 (.cal false (.c x3) [(.c x5)]) (fun x6 nx6 sx6 =>
 Xpg call x6 false ox2 9 (.ld true 2 (.c x2)) (fun x7 nx7 sx7 =>
 Xpg call x6 false ox2 10 (.call false i_schema_valueNames [(.c x7)]) (fun x8 nx8 sx8 =>
 Xpg call x6 false ox2 11 (.ld false 1 (.c x1)) (fun x9 nx9 sx9 =>
 Xxg call x6 false (finO ox2 (nx3 ++ nx5 ++ nx6 ++ nx7 ++ nx8 ++ nx9) (sx3 ++ sx5 ++ sx6 ++ sx7 ++ sx8 ++ sx9)) 12 (.call false i_slices_ContainsFunc_Lstring_string_ [(.c x8), (.c x9)]) (fun x10 ox10 =>
 Xq (.pick (.c x6) (.c (.v (.bool true))) (.c x10)) (fun x11 =>
 Xr ox10 [some x11]) ()) ()) ()) ()) ()) ()) ()) ()) ()) () := by kernel_rfl
def c_slices_ContainsFunc_Lstring_string_ : CF := ⟨2, 9,
  .seq (.reg [] [
  ⟨(some 4), none, .mv (.c (.v (.bool false)))⟩]) (
  .seq (.reg [] [
  ⟨(some 5), none, .mv (.t 0)⟩,
  ⟨(some 6), none, .mv (.t 1)⟩,
  ⟨(some 7), none, .call false i_slices_IndexFunc_Lstring_string_ [(.t 5), (.t 6)]⟩,
  ⟨(some 8), none, .bin .geq (.t 7) (.c (.v (.int .i64 0)))⟩,
  ⟨(some 4), none, .mv (.t 8)⟩]) (
  .ret)),
  [.t 4]⟩
def v_slices_ContainsFunc_Lstring_string_ : List Nat := []
set_option maxRecDepth 100000 in
theorem s_slices_ContainsFunc_Lstring_string_ (call : Eng.Call) (G : Nat → AV) (n : Nat) (x0 x1 : AV) : denFE call G v_slices_ContainsFunc_Lstring_string_ n c_slices_ContainsFunc_Lstring_string_ [x0, x1] =
 Xx call [] 7 (.call false i_slices_IndexFunc_Lstring_string_ [(.c x0), (.c x1)]) (fun x2 ox2 =>
 Xq (.bin .geq (.c x2) (.c (.v (.int .i64 0)))) (fun x3 =>
 Xr ox2 [some x3]) ()) () := by kernel_rfl
def k_schema_valueNames_0 : List Nat := [7, 8, 9, 3, 1, 2]
def c_schema_valueNames_b0 : CC := .seq (.reg [] [
  ⟨(some 10), none, .bin .lss (.t 9) (.t 8)⟩]) (
  .seq (.cond (.t 10) (
  .skip) (
  .exit 0)) (
  .seq (.block 1 (
  .seq (.reg [] [
  ⟨(some 11), none, .ias 2 (.t 7) (.t 9)⟩,
  ⟨(some 12), none, .ld true 2 (.t 11)⟩,
  ⟨(some 5), none, .alloc [(.v (.string ⟨#[]⟩)), (.v (.int .i64 0))] [0, 0]⟩,
  ⟨none, none, .st 2 (.t 5) (.t 12)⟩]) (
  .reg [] [
  ⟨(some 13), none, .mv (.t 3)⟩,
  ⟨(some 14), none, .fad (.t 5) 0⟩,
  ⟨(some 15), none, .ld false 1 (.t 14)⟩,
  ⟨(some 16), none, .bsl 1 1 [(.v (.string ⟨#[]⟩))] [(0, (.t 15))]⟩,
  ⟨(some 17), none, .app false 1 16 (.t 13) (.t 16)⟩,
  ⟨(some 3), none, .mv (.t 17)⟩]))) (
  .reg [] [
  ⟨(some 18), none, .bin .add (.t 9) (.c (.v (.int .i64 1)))⟩,
  ⟨(some 9), none, .mv (.t 18)⟩])))
def c_schema_valueNames_s0 : CC := .seq (.reg [] [
  ⟨(some 19), none, .mv (.t 3)⟩,
  ⟨(some 2), none, .mv (.t 19)⟩]) (
  .ret)
def c_schema_valueNames : CF := ⟨1, 20,
  .seq (.reg [] [
  ⟨(some 1), none, .box 2 [0, 2] (.t 0)⟩,
  ⟨(some 2), none, .nil 1⟩]) (
  .seq (.reg [] [
  ⟨(some 3), none, .nil 1⟩]) (
  .seq (.seq (.reg [] [
  ⟨(some 6), none, .fad (.t 1) 1⟩,
  ⟨(some 7), none, .ld false 1 (.t 6)⟩,
  ⟨(some 8), none, .len false (.t 7)⟩,
  ⟨(some 9), none, .mv (.c (.v (.int .i64 0)))⟩]) (
  .block 0 (
  .loop k_schema_valueNames_0 c_schema_valueNames_b0))) c_schema_valueNames_s0)),
  [.t 2]⟩
def v_schema_valueNames : List Nat := [5]
def R_schema_valueNames_0 (call : Eng.Call) (G : Nat → AV) (n m0 : Nat) (o : Objs) (y7 y8 y9 y3 y1 y2 : AV) : Out := roundsE k_schema_valueNames_0 (denE 20 call G v_schema_valueNames n c_schema_valueNames_b0) m0 [y7, y8, y9, y3, y1, y2] o (eBlock 0 (eSeq (denE 20 call G v_schema_valueNames n c_schema_valueNames_s0) (eEnd [.t 2])))
set_option maxRecDepth 100000 in
theorem R_schema_valueNames_0_s (call : Eng.Call) (G : Nat → AV) (n m0 : Nat) (o : Objs) (y7 y8 y9 y3 y1 y2 : AV) : R_schema_valueNames_0 call G n (m0 + 1) o y7 y8 y9 y3 y1 y2 =
 Xq (.bin .lss (.c y9) (.c y8)) (fun x7 =>
 Xc x7 (fun _ =>
 Xq (.ias 2 (.c y7) (.c y9)) (fun x8 =>
 Xx call o 12 (.ld true 2 (.c x8)) (fun x9 ox9 =>
 Xx call ox9 5 (.alloc [(.v (.string ⟨#[]⟩)), (.v (.int .i64 0))] [0, 0]) (fun x10 ox10 =>
 Xv ox10 2 x10 x9 (fun ox11 =>
 Xq (.fad (.c x10) 0) (fun x12 =>
 Xx call ox11 15 (.ld false 1 (.c x12)) (fun x13 ox13 =>
 Xx call ox13 16 (.bsl 1 1 [(.v (.string ⟨#[]⟩))] [(0, (.c x13))]) (fun x14 ox14 =>
 Xa ox14 17 false 1 16 y3 x14 (fun x15 ox15 =>
 Xq (.bin .add (.c y9) (.c (.v (.int .i64 1)))) (fun x16 =>
 R_schema_valueNames_0 call G n m0 (maskO k_schema_valueNames_0 ox15) (msk k_schema_valueNames_0 y7) (msk k_schema_valueNames_0 y8) (msk k_schema_valueNames_0 x16) (msk k_schema_valueNames_0 x15) (msk k_schema_valueNames_0 y1) (msk k_schema_valueNames_0 y2)) ()) ()) ()) ()) ()) ()) ()) ()) ()) (fun _ =>
 Xr o [some y3]) () ()) () := by kernel_rfl
set_option maxRecDepth 100000 in
theorem s_schema_valueNames (call : Eng.Call) (G : Nat → AV) (n : Nat) (x0 : AV) : denFE call G v_schema_valueNames n c_schema_valueNames [x0] =
 Xx call [] 1 (.box 2 [0, 2] (.c x0)) (fun x1 ox1 =>
 Xx call ox1 2 (.nil 1) (fun x2 ox2 =>
 Xx call ox2 3 (.nil 1) (fun x3 ox3 =>
 Xq (.fad (.c x1) 1) (fun x4 =>
 Xx call ox3 7 (.ld false 1 (.c x4)) (fun x5 ox5 =>
 Xq (.len false (.c x5)) (fun x6 =>
 R_schema_valueNames_0 call G n n (maskO k_schema_valueNames_0 ox5) (msk k_schema_valueNames_0 x5) (msk k_schema_valueNames_0 x6) (msk k_schema_valueNames_0 (.v (.int .i64 0))) (msk k_schema_valueNames_0 x3) (msk k_schema_valueNames_0 x1) (msk k_schema_valueNames_0 x2)) ()) ()) ()) ()) ()) () := by kernel_rfl
def c_schema_misnamed_3 : CF := ⟨2, 8,
  .seq (.reg [] [
  ⟨(some 2), none, .box 3 [0, 7, 1] (.t 0)⟩,
  ⟨(some 3), none, .mv (.c (.v (.bool false)))⟩]) (
  .seq (.reg [] [
  ⟨(some 4), none, .ld false 1 (.t 1)⟩,
  ⟨(some 5), none, .fad (.t 2) 0⟩,
  ⟨(some 6), none, .ld false 1 (.t 5)⟩,
  ⟨(some 7), none, .cal false (.t 4) [(.t 6)]⟩,
  ⟨(some 3), none, .mv (.t 7)⟩]) (
  .ret)),
  [.t 3]⟩
def v_schema_misnamed_3 : List Nat := []
set_option maxRecDepth 100000 in
theorem s_schema_misnamed_3 (call : Eng.Call) (G : Nat → AV) (n : Nat) (x0 x1 : AV) : denFE call G v_schema_misnamed_3 n c_schema_misnamed_3 [x0, x1] =
 Xx call [] 2 (.box 3 [0, 7, 1] (.c x0)) (fun x2 ox2 =>
 Xx call ox2 4 (.ld false 1 (.c x1)) (fun x3 ox3 =>
 Xq (.fad (.c x2) 0) (fun x4 =>
 Xx call ox3 6 (.ld false 1 (.c x4)) (fun x5 ox5 =>
 Xx call ox5 7 (.cal false (.c x3) [(.c x5)]) (fun x6 ox6 =>
 Xr ox6 [some x6]) ()) ()) ()) ()) () := by kernel_rfl
def c_field_Check : CF := ⟨1, 42,
  .seq (.reg [] [
  ⟨(some 1), none, .box 7 [0, 0, 0, 0, 0, 0, 0] (.t 0)⟩,
  ⟨(some 2), none, .mv (.c (.v (.int .i64 0)))⟩]) (
  .seq (.reg [] [
  ⟨(some 3), none, .mv (.c (.v (.int .i64 0)))⟩]) (
  .seq (.block 0 (
  .seq (.block 5 (
  .block 4 (
  .block 3 (
  .block 2 (
  .seq (.block 1 (
  .seq (.seq (.seq (.reg [] [
  ⟨(some 5), none, .ld true 7 (.t 1)⟩,
  ⟨(some 6), none, .call false i_field_named [(.t 5)]⟩,
  ⟨(some 7), none, .not (.t 6)⟩,
  ⟨(some 4), none, .mv (.t 7)⟩]) (
  .cond (.t 4) (
  .exit 1) (
  .skip))) (
  .seq (.seq (.seq (.reg [] [
  ⟨(some 9), none, .fad (.t 1) 2⟩,
  ⟨(some 10), none, .ld false 1 (.t 9)⟩,
  ⟨(some 11), none, .bin .lss (.t 10) (.c (.v (.int .i64 1)))⟩,
  ⟨(some 8), none, .mv (.t 11)⟩]) (
  .cond (.t 8) (
  .skip) (
  .reg [] [
  ⟨(some 12), none, .fad (.t 1) 2⟩,
  ⟨(some 13), none, .ld false 1 (.t 12)⟩,
  ⟨(some 14), none, .bin .gtr (.t 13) (.c (.v (.int .i64 15)))⟩,
  ⟨(some 8), none, .mv (.t 14)⟩]))) (
  .cond (.t 8) (
  .exit 2) (
  .skip))) (
  .seq (.seq (.reg [] [
  ⟨(some 16), none, .fad (.t 1) 4⟩,
  ⟨(some 17), none, .ld false 1 (.t 16)⟩,
  ⟨(some 18), none, .mv (.t 17)⟩,
  ⟨(some 19), (some (18, true)), .fad (.t 1) 6⟩,
  ⟨(some 20), (some (18, true)), .ld false 1 (.t 19)⟩,
  ⟨(some 21), (some (18, true)), .bin .neq (.t 20) (.c (.v (.string ⟨#[]⟩)))⟩,
  ⟨(some 22), none, .pick (.t 18) (.t 21) (.c (.v (.bool false)))⟩,
  ⟨(some 15), none, .mv (.t 22)⟩]) (
  .cond (.t 15) (
  .exit 3) (
  .skip))) (
  .seq (.seq (.reg [] [
  ⟨(some 24), none, .fad (.t 1) 5⟩,
  ⟨(some 25), none, .ld false 1 (.t 24)⟩,
  ⟨(some 26), none, .mv (.t 25)⟩,
  ⟨(some 27), (some (26, true)), .fad (.t 1) 4⟩,
  ⟨(some 28), (some (26, true)), .ld false 1 (.t 27)⟩,
  ⟨(some 29), (some (26, true)), .mv (.t 28)⟩,
  ⟨(some 30), (some (29, true)), .fad (.t 1) 2⟩,
  ⟨(some 31), (some (29, true)), .ld false 1 (.t 30)⟩,
  ⟨(some 32), (some (29, true)), .call false i_scalar_Number [(.t 31)]⟩,
  ⟨(some 33), (some (26, true)), .pick (.t 29) (.t 32) (.c (.v (.bool false)))⟩,
  ⟨(some 34), (some (26, true)), .not (.t 33)⟩,
  ⟨(some 35), none, .pick (.t 26) (.t 34) (.c (.v (.bool false)))⟩,
  ⟨(some 23), none, .mv (.t 35)⟩]) (
  .cond (.t 23) (
  .exit 4) (
  .skip))) (
  .seq (.reg [] [
  ⟨(some 37), none, .fad (.t 1) 1⟩,
  ⟨(some 38), none, .ld false 1 (.t 37)⟩,
  ⟨(some 39), none, .call false i_tag_Field [(.t 38)]⟩,
  ⟨(some 40), none, .not (.t 39)⟩,
  ⟨(some 36), none, .mv (.t 40)⟩]) (
  .cond (.t 36) (
  .exit 5) (
  .skip))))))) (
  .exit 0))) (
  .seq (.reg [] [
  ⟨(some 3), none, .mv (.c (.v (.int .i64 2)))⟩]) (
  .exit 0))))))) (
  .seq (.reg [] [
  ⟨(some 3), none, .mv (.c (.v (.int .i64 1)))⟩]) (
  .exit 0)))) (
  .seq (.reg [] [
  ⟨(some 41), none, .mv (.t 3)⟩,
  ⟨(some 2), none, .mv (.t 41)⟩]) (
  .ret)))),
  [.t 2]⟩
def v_field_Check : List Nat := []
def J_field_Check_0 (call : Eng.Call) (G : Nat → AV) (n : Nat) (oJ : Objs) (z1z z3z z8z : AV) : Out :=
 Xc z8z (fun _ =>
 Xr oJ [some (.v (.int .i64 1))]) (fun _ =>
 Xq (.fad (.c z1z) 4) (fun x5 =>
 Xx call oJ 17 (.ld false 1 (.c x5)) (fun x6 ox6 =>
 Xgq x6 true (.fad (.c z1z) 6) (fun x7 =>
 Xxg call x6 true ox6 20 (.ld false 1 (.c x7)) (fun x8 ox8 =>
 Xgq x6 true (.bin .neq (.c x8) (.c (.v (.string ⟨#[]⟩)))) (fun x9 =>
 Xq (.pick (.c x6) (.c x9) (.c (.v (.bool false)))) (fun x10 =>
 Xc x10 (fun _ =>
 Xr ox8 [some (.v (.int .i64 1))]) (fun _ =>
 Xq (.fad (.c z1z) 5) (fun x11 =>
 Xx call ox8 25 (.ld false 1 (.c x11)) (fun x12 ox12 =>
 Xgq x12 true (.fad (.c z1z) 4) (fun x13 =>
 Xxg call x12 true ox12 28 (.ld false 1 (.c x13)) (fun x14 ox14 =>
 Xgq x12 true (.mv (.c x14)) (fun x15 =>
 Xgq x15 true (.fad (.c z1z) 2) (fun x16 =>
 Xxg call x15 true ox14 31 (.ld false 1 (.c x16)) (fun x17 ox17 =>
 Xxg call x15 true ox17 32 (.call false i_scalar_Number [(.c x17)]) (fun x18 ox18 =>
 Xgq x12 true (.pick (.c x15) (.c x18) (.c (.v (.bool false)))) (fun x19 =>
 Xgq x12 true (.not (.c x19)) (fun x20 =>
 Xq (.pick (.c x12) (.c x20) (.c (.v (.bool false)))) (fun x21 =>
 Xc x21 (fun _ =>
 Xr ox18 [some (.v (.int .i64 1))]) (fun _ =>
 Xq (.fad (.c z1z) 1) (fun x22 =>
 Xx call ox18 38 (.ld false 1 (.c x22)) (fun x23 ox23 =>
 Xx call ox23 39 (.call false i_tag_Field [(.c x23)]) (fun x24 ox24 =>
 Xq (.not (.c x24)) (fun x25 =>
 Xc x25 (fun _ =>
 Xr ox24 [some (.v (.int .i64 1))]) (fun _ =>
 Xr ox24 [some z3z]) () ()) ()) ()) ()) ()) () ()) ()) ()) ()) ()) ()) ()) ()) ()) ()) ()) ()) () ()) ()) ()) ()) ()) ()) ()) () ()
set_option maxRecDepth 100000 in
theorem s_field_Check (call : Eng.Call) (G : Nat → AV) (n : Nat) (x0 : AV) : denFE call G v_field_Check n c_field_Check [x0] =
 Xx call [] 1 (.box 7 [0, 0, 0, 0, 0, 0, 0] (.c x0)) (fun x1 ox1 =>
 Xx call ox1 5 (.ld true 7 (.c x1)) (fun x2 ox2 =>
 Xx call ox2 6 (.call false i_field_named [(.c x2)]) (fun x3 ox3 =>
 Xq (.not (.c x3)) (fun x4 =>
 Xc x4 (fun _ =>
 Xr ox3 [some (.v (.int .i64 2))]) (fun _ =>
 Xq (.fad (.c x1) 2) (fun x26 =>
 Xx call ox3 10 (.ld false 1 (.c x26)) (fun x27 ox27 =>
 Xq (.bin .lss (.c x27) (.c (.v (.int .i64 1)))) (fun x28 =>
 Xc x28 (fun _ =>
 J_field_Check_0 call G n ox27 x1 (.v (.int .i64 0)) x28) (fun _ =>
 Xq (.fad (.c x1) 2) (fun x29 =>
 Xx call ox27 13 (.ld false 1 (.c x29)) (fun x30 ox30 =>
 Xq (.bin .gtr (.c x30) (.c (.v (.int .i64 15)))) (fun x31 =>
 J_field_Check_0 call G n ox30 x1 (.v (.int .i64 0)) x31) ()) ()) ()) () ()) ()) ()) ()) () ()) ()) ()) ()) () := by kernel_rfl
def k_schema_names_0 : List Nat := [11, 5, 1, 12, 13, 4, 2, 3, 9, 33, 34]
def c_schema_names_b0 : CC := .seq (.reg [] [
  ⟨(some 14), none, .bin .lss (.t 13) (.t 12)⟩]) (
  .seq (.cond (.t 14) (
  .skip) (
  .exit 0)) (
  .seq (.block 1 (
  .seq (.reg [] [
  ⟨(some 15), none, .ias 2 (.t 11) (.t 13)⟩,
  ⟨(some 16), none, .ld true 2 (.t 15)⟩,
  ⟨(some 7), none, .alloc [(.v (.string ⟨#[]⟩)), .nilsl] [0, 2]⟩,
  ⟨none, none, .st 2 (.t 7) (.t 16)⟩]) (
  .reg [] [
  ⟨(some 17), none, .mv (.t 4)⟩,
  ⟨(some 18), none, .fad (.t 7) 0⟩,
  ⟨(some 19), none, .ld false 1 (.t 18)⟩,
  ⟨(some 20), none, .bsl 1 1 [(.v (.string ⟨#[]⟩))] [(0, (.t 19))]⟩,
  ⟨(some 21), none, .app false 1 16 (.t 17) (.t 20)⟩,
  ⟨(some 4), none, .mv (.t 21)⟩]))) (
  .reg [] [
  ⟨(some 22), none, .bin .add (.t 13) (.c (.v (.int .i64 1)))⟩,
  ⟨(some 13), none, .mv (.t 22)⟩])))
def k_schema_names_1 : List Nat := [24, 4, 25, 26, 5, 1, 2, 3, 7, 20, 21]
def c_schema_names_b1 : CC := .seq (.reg [] [
  ⟨(some 27), none, .bin .lss (.t 26) (.t 25)⟩]) (
  .seq (.cond (.t 27) (
  .skip) (
  .exit 2)) (
  .seq (.block 3 (
  .seq (.reg [] [
  ⟨(some 28), none, .ias 3 (.t 24) (.t 26)⟩,
  ⟨(some 29), none, .ld true 3 (.t 28)⟩,
  ⟨(some 9), none, .alloc [(.v (.string ⟨#[]⟩)), .nilsl, .nilsl] [0, 7, 1]⟩,
  ⟨none, none, .st 3 (.t 9) (.t 29)⟩]) (
  .reg [] [
  ⟨(some 30), none, .mv (.t 5)⟩,
  ⟨(some 31), none, .fad (.t 9) 0⟩,
  ⟨(some 32), none, .ld false 1 (.t 31)⟩,
  ⟨(some 33), none, .bsl 1 1 [(.v (.string ⟨#[]⟩))] [(0, (.t 32))]⟩,
  ⟨(some 34), none, .app false 1 16 (.t 30) (.t 33)⟩,
  ⟨(some 5), none, .mv (.t 34)⟩]))) (
  .reg [] [
  ⟨(some 35), none, .bin .add (.t 26) (.c (.v (.int .i64 1)))⟩,
  ⟨(some 26), none, .mv (.t 35)⟩])))
def c_schema_names_s0 : CC := .seq (.reg [] [
  ⟨(some 36), none, .mv (.t 4)⟩,
  ⟨(some 37), none, .mv (.t 5)⟩,
  ⟨(some 2), none, .mv (.t 36)⟩,
  ⟨(some 3), none, .mv (.t 37)⟩]) (
  .ret)
def c_schema_names_s1 : CC := .seq (.seq (.reg [] [
  ⟨(some 23), none, .fad (.t 1) 1⟩,
  ⟨(some 24), none, .ld false 1 (.t 23)⟩,
  ⟨(some 25), none, .len false (.t 24)⟩,
  ⟨(some 26), none, .mv (.c (.v (.int .i64 0)))⟩]) (
  .block 2 (
  .loop k_schema_names_1 c_schema_names_b1))) c_schema_names_s0
def c_schema_names : CF := ⟨1, 38,
  .seq (.reg [] [
  ⟨(some 1), none, .box 2 [2, 3] (.t 0)⟩,
  ⟨(some 2), none, .nil 1⟩,
  ⟨(some 3), none, .nil 1⟩]) (
  .seq (.reg [] [
  ⟨(some 4), none, .nil 1⟩,
  ⟨(some 5), none, .nil 1⟩]) (
  .seq (.seq (.reg [] [
  ⟨(some 10), none, .fad (.t 1) 0⟩,
  ⟨(some 11), none, .ld false 1 (.t 10)⟩,
  ⟨(some 12), none, .len false (.t 11)⟩,
  ⟨(some 13), none, .mv (.c (.v (.int .i64 0)))⟩]) (
  .block 0 (
  .loop k_schema_names_0 c_schema_names_b0))) c_schema_names_s1)),
  [.t 2, .t 3]⟩
def v_schema_names : List Nat := [7, 9]
def R_schema_names_1 (call : Eng.Call) (G : Nat → AV) (n m1 : Nat) (o : Objs) (y24 y4 y25 y26 y5 y1 y2 y3 y7 y20 y21 : AV) : Out := roundsE k_schema_names_1 (denE 38 call G v_schema_names n c_schema_names_b1) m1 [y24, y4, y25, y26, y5, y1, y2, y3, y7, y20, y21] o (eBlock 2 (eSeq (denE 38 call G v_schema_names n c_schema_names_s0) (eEnd [.t 2, .t 3])))
def R_schema_names_0 (call : Eng.Call) (G : Nat → AV) (n m0 : Nat) (o : Objs) (y11 y5 y1 y12 y13 y4 y2 y3 y9 y33 y34 : AV) : Out := roundsE k_schema_names_0 (denE 38 call G v_schema_names n c_schema_names_b0) m0 [y11, y5, y1, y12, y13, y4, y2, y3, y9, y33, y34] o (eBlock 0 (eSeq (denE 38 call G v_schema_names n c_schema_names_s1) (eEnd [.t 2, .t 3])))
set_option maxRecDepth 100000 in
theorem R_schema_names_1_s (call : Eng.Call) (G : Nat → AV) (n m1 : Nat) (o : Objs) (y24 y4 y25 y26 y5 y1 y2 y3 y7 y20 y21 : AV) : R_schema_names_1 call G n (m1 + 1) o y24 y4 y25 y26 y5 y1 y2 y3 y7 y20 y21 =
 Xq (.bin .lss (.c y26) (.c y25)) (fun x22 =>
 Xc x22 (fun _ =>
 Xq (.ias 3 (.c y24) (.c y26)) (fun x23 =>
 Xx call o 29 (.ld true 3 (.c x23)) (fun x24 ox24 =>
 Xx call ox24 9 (.alloc [(.v (.string ⟨#[]⟩)), .nilsl, .nilsl] [0, 7, 1]) (fun x25 ox25 =>
 Xv ox25 3 x25 x24 (fun ox26 =>
 Xq (.fad (.c x25) 0) (fun x27 =>
 Xx call ox26 32 (.ld false 1 (.c x27)) (fun x28 ox28 =>
 Xx call ox28 33 (.bsl 1 1 [(.v (.string ⟨#[]⟩))] [(0, (.c x28))]) (fun x29 ox29 =>
 Xa ox29 34 false 1 16 y5 x29 (fun x30 ox30 =>
 Xq (.bin .add (.c y26) (.c (.v (.int .i64 1)))) (fun x31 =>
 R_schema_names_1 call G n m1 (maskO k_schema_names_1 ox30) (msk k_schema_names_1 y24) (msk k_schema_names_1 y4) (msk k_schema_names_1 y25) (msk k_schema_names_1 x31) (msk k_schema_names_1 x30) (msk k_schema_names_1 y1) (msk k_schema_names_1 y2) (msk k_schema_names_1 y3) (msk k_schema_names_1 y7) (msk k_schema_names_1 y20) (msk k_schema_names_1 y21)) ()) ()) ()) ()) ()) ()) ()) ()) ()) (fun _ =>
 Xr o [some y4, some y5]) () ()) () := by kernel_rfl
set_option maxRecDepth 100000 in
theorem R_schema_names_0_s (call : Eng.Call) (G : Nat → AV) (n m0 : Nat) (o : Objs) (y11 y5 y1 y12 y13 y4 y2 y3 y9 y33 y34 : AV) : R_schema_names_0 call G n (m0 + 1) o y11 y5 y1 y12 y13 y4 y2 y3 y9 y33 y34 =
 Xq (.bin .lss (.c y13) (.c y12)) (fun x9 =>
 Xc x9 (fun _ =>
 Xq (.ias 2 (.c y11) (.c y13)) (fun x10 =>
 Xx call o 16 (.ld true 2 (.c x10)) (fun x11 ox11 =>
 Xx call ox11 7 (.alloc [(.v (.string ⟨#[]⟩)), .nilsl] [0, 2]) (fun x12 ox12 =>
 Xv ox12 2 x12 x11 (fun ox13 =>
 Xq (.fad (.c x12) 0) (fun x14 =>
 Xx call ox13 19 (.ld false 1 (.c x14)) (fun x15 ox15 =>
 Xx call ox15 20 (.bsl 1 1 [(.v (.string ⟨#[]⟩))] [(0, (.c x15))]) (fun x16 ox16 =>
 Xa ox16 21 false 1 16 y4 x16 (fun x17 ox17 =>
 Xq (.bin .add (.c y13) (.c (.v (.int .i64 1)))) (fun x18 =>
 R_schema_names_0 call G n m0 (maskO k_schema_names_0 ox17) (msk k_schema_names_0 y11) (msk k_schema_names_0 y5) (msk k_schema_names_0 y1) (msk k_schema_names_0 y12) (msk k_schema_names_0 x18) (msk k_schema_names_0 x17) (msk k_schema_names_0 y2) (msk k_schema_names_0 y3) (msk k_schema_names_0 y9) (msk k_schema_names_0 y33) (msk k_schema_names_0 y34)) ()) ()) ()) ()) ()) ()) ()) ()) ()) (fun _ =>
 Xq (.fad (.c y1) 1) (fun x19 =>
 Xx call o 24 (.ld false 1 (.c x19)) (fun x20 ox20 =>
 Xq (.len false (.c x20)) (fun x21 =>
 R_schema_names_1 call G n n (maskO k_schema_names_1 ox20) (msk k_schema_names_1 x20) (msk k_schema_names_1 y4) (msk k_schema_names_1 x21) (msk k_schema_names_1 (.v (.int .i64 0))) (msk k_schema_names_1 y5) (msk k_schema_names_1 y1) (msk k_schema_names_1 y2) (msk k_schema_names_1 y3) (msk k_schema_names_1 .undef) (msk k_schema_names_1 .undef) (msk k_schema_names_1 .undef)) ()) ()) ()) () ()) () := by kernel_rfl
set_option maxRecDepth 100000 in
theorem s_schema_names (call : Eng.Call) (G : Nat → AV) (n : Nat) (x0 : AV) : denFE call G v_schema_names n c_schema_names [x0] =
 Xx call [] 1 (.box 2 [2, 3] (.c x0)) (fun x1 ox1 =>
 Xx call ox1 2 (.nil 1) (fun x2 ox2 =>
 Xx call ox2 3 (.nil 1) (fun x3 ox3 =>
 Xx call ox3 4 (.nil 1) (fun x4 ox4 =>
 Xx call ox4 5 (.nil 1) (fun x5 ox5 =>
 Xq (.fad (.c x1) 0) (fun x6 =>
 Xx call ox5 11 (.ld false 1 (.c x6)) (fun x7 ox7 =>
 Xq (.len false (.c x7)) (fun x8 =>
 R_schema_names_0 call G n n (maskO k_schema_names_0 ox7) (msk k_schema_names_0 x7) (msk k_schema_names_0 x5) (msk k_schema_names_0 x1) (msk k_schema_names_0 x8) (msk k_schema_names_0 (.v (.int .i64 0))) (msk k_schema_names_0 x4) (msk k_schema_names_0 x2) (msk k_schema_names_0 x3) (msk k_schema_names_0 .undef) (msk k_schema_names_0 .undef) (msk k_schema_names_0 .undef)) ()) ()) ()) ()) ()) ()) ()) () := by kernel_rfl
def c_schema_twice_1 : CF := ⟨1, 7,
  .seq (.reg [] [
  ⟨(some 1), none, .box 2 [0, 2] (.t 0)⟩,
  ⟨(some 2), none, .mv (.c (.v (.bool false)))⟩]) (
  .seq (.reg [] [
  ⟨(some 3), none, .ld true 2 (.t 1)⟩,
  ⟨(some 4), none, .call false i_schema_valueNames [(.t 3)]⟩,
  ⟨(some 5), none, .call false i_ident_Once [(.t 4)]⟩,
  ⟨(some 6), none, .not (.t 5)⟩,
  ⟨(some 2), none, .mv (.t 6)⟩]) (
  .ret)),
  [.t 2]⟩
def v_schema_twice_1 : List Nat := []
set_option maxRecDepth 100000 in
theorem s_schema_twice_1 (call : Eng.Call) (G : Nat → AV) (n : Nat) (x0 : AV) : denFE call G v_schema_twice_1 n c_schema_twice_1 [x0] =
 Xx call [] 1 (.box 2 [0, 2] (.c x0)) (fun x1 ox1 =>
 Xx call ox1 3 (.ld true 2 (.c x1)) (fun x2 ox2 =>
 Xx call ox2 4 (.call false i_schema_valueNames [(.c x2)]) (fun x3 ox3 =>
 Xx call ox3 5 (.call false i_ident_Once [(.c x3)]) (fun x4 ox4 =>
 Xq (.not (.c x4)) (fun x5 =>
 Xr ox4 [some x5]) ()) ()) ()) ()) () := by kernel_rfl
def c_schema_twice_2 : CF := ⟨1, 15,
  .seq (.reg [] [
  ⟨(some 1), none, .box 3 [0, 7, 1] (.t 0)⟩,
  ⟨(some 2), none, .mv (.c (.v (.bool false)))⟩]) (
  .seq (.reg [] [
  ⟨(some 4), none, .ld true 3 (.t 1)⟩,
  ⟨(some 5), none, .call false i_schema_fieldNames [(.t 4)]⟩,
  ⟨(some 3), none, .alloc [.nilsl] [1]⟩,
  ⟨none, none, .st 1 (.t 3) (.t 5)⟩]) (
  .seq (.reg [] [
  ⟨(some 6), none, .ld false 1 (.t 3)⟩,
  ⟨(some 7), none, .call false i_ident_Once [(.t 6)]⟩,
  ⟨(some 8), none, .not (.t 7)⟩,
  ⟨(some 9), none, .mv (.t 8)⟩,
  ⟨(some 10), (some (9, false)), .fad (.t 1) 1⟩,
  ⟨(some 11), (some (9, false)), .ld false 1 (.t 10)⟩,
  ⟨(some 12), (some (9, false)), .mkf i_schema_twice_2_1 [(.t 3)]⟩,
  ⟨(some 13), (some (9, false)), .call false i_slices_ContainsFunc_Lapi_Field_api_Field_ [(.t 11), (.t 12)]⟩,
  ⟨(some 14), none, .pick (.t 9) (.c (.v (.bool true))) (.t 13)⟩,
  ⟨(some 2), none, .mv (.t 14)⟩]) (
  .ret))),
  [.t 2]⟩
def v_schema_twice_2 : List Nat := [3]
set_option maxRecDepth 100000 in
theorem s_schema_twice_2 (call : Eng.Call) (G : Nat → AV) (n : Nat) (x0 : AV) : denFE call G v_schema_twice_2 n c_schema_twice_2 [x0] =
 Xx call [] 1 (.box 3 [0, 7, 1] (.c x0)) (fun x1 ox1 =>
 Xx call ox1 4 (.ld true 3 (.c x1)) (fun x2 ox2 =>
 Xx call ox2 5 (.call false i_schema_fieldNames [(.c x2)]) (fun x3 ox3 =>
 Xx call ox3 3 (.alloc [.nilsl] [1]) (fun x4 ox4 =>
 Xv ox4 1 x4 x3 (fun ox5 =>
 Xx call ox5 6 (.ld false 1 (.c x4)) (fun x6 ox6 =>
 Xx call ox6 7 (.call false i_ident_Once [(.c x6)]) (fun x7 ox7 =>
 Xq (.not (.c x7)) (fun x8 =>
 Xgq x8 false (.fad (.c x1) 1) (fun x9 =>
 Xxg call x8 false ox7 11 (.ld false 1 (.c x9)) (fun x10 ox10 =>
 Xxg call x8 false ox10 12 (.mkf i_schema_twice_2_1 [(.c x4)]) (fun x11 ox11 =>
 Xxg call x8 false ox11 13 (.call false i_slices_ContainsFunc_Lapi_Field_api_Field_ [(.c x10), (.c x11)]) (fun x12 ox12 =>
 Xq (.pick (.c x8) (.c (.v (.bool true))) (.c x12)) (fun x13 =>
 Xr ox12 [some x13]) ()) ()) ()) ()) ()) ()) ()) ()) ()) ()) ()) ()) () := by kernel_rfl
def k_schema_fieldNames_0 : List Nat := [7, 8, 9, 3, 1, 2]
def c_schema_fieldNames_b0 : CC := .seq (.reg [] [
  ⟨(some 10), none, .bin .lss (.t 9) (.t 8)⟩]) (
  .seq (.cond (.t 10) (
  .skip) (
  .exit 0)) (
  .seq (.block 1 (
  .seq (.reg [] [
  ⟨(some 11), none, .ias 7 (.t 7) (.t 9)⟩,
  ⟨(some 12), none, .ld true 7 (.t 11)⟩,
  ⟨(some 5), none, .alloc [(.v (.string ⟨#[]⟩)), (.v (.int .i64 0)), (.v (.int .i64 0)), (.v (.string ⟨#[]⟩)), (.v (.bool false)), (.v (.bool false)), (.v (.string ⟨#[]⟩))] [0, 0, 0, 0, 0, 0, 0]⟩,
  ⟨none, none, .st 7 (.t 5) (.t 12)⟩]) (
  .reg [] [
  ⟨(some 13), none, .mv (.t 3)⟩,
  ⟨(some 14), none, .fad (.t 5) 0⟩,
  ⟨(some 15), none, .ld false 1 (.t 14)⟩,
  ⟨(some 16), none, .bsl 1 1 [(.v (.string ⟨#[]⟩))] [(0, (.t 15))]⟩,
  ⟨(some 17), none, .app false 1 16 (.t 13) (.t 16)⟩,
  ⟨(some 3), none, .mv (.t 17)⟩]))) (
  .reg [] [
  ⟨(some 18), none, .bin .add (.t 9) (.c (.v (.int .i64 1)))⟩,
  ⟨(some 9), none, .mv (.t 18)⟩])))
def c_schema_fieldNames_s0 : CC := .seq (.reg [] [
  ⟨(some 19), none, .mv (.t 3)⟩,
  ⟨(some 2), none, .mv (.t 19)⟩]) (
  .ret)
def c_schema_fieldNames : CF := ⟨1, 20,
  .seq (.reg [] [
  ⟨(some 1), none, .box 3 [0, 7, 1] (.t 0)⟩,
  ⟨(some 2), none, .nil 1⟩]) (
  .seq (.reg [] [
  ⟨(some 3), none, .nil 1⟩]) (
  .seq (.seq (.reg [] [
  ⟨(some 6), none, .fad (.t 1) 1⟩,
  ⟨(some 7), none, .ld false 1 (.t 6)⟩,
  ⟨(some 8), none, .len false (.t 7)⟩,
  ⟨(some 9), none, .mv (.c (.v (.int .i64 0)))⟩]) (
  .block 0 (
  .loop k_schema_fieldNames_0 c_schema_fieldNames_b0))) c_schema_fieldNames_s0)),
  [.t 2]⟩
def v_schema_fieldNames : List Nat := [5]
def R_schema_fieldNames_0 (call : Eng.Call) (G : Nat → AV) (n m0 : Nat) (o : Objs) (y7 y8 y9 y3 y1 y2 : AV) : Out := roundsE k_schema_fieldNames_0 (denE 20 call G v_schema_fieldNames n c_schema_fieldNames_b0) m0 [y7, y8, y9, y3, y1, y2] o (eBlock 0 (eSeq (denE 20 call G v_schema_fieldNames n c_schema_fieldNames_s0) (eEnd [.t 2])))
set_option maxRecDepth 100000 in
theorem R_schema_fieldNames_0_s (call : Eng.Call) (G : Nat → AV) (n m0 : Nat) (o : Objs) (y7 y8 y9 y3 y1 y2 : AV) : R_schema_fieldNames_0 call G n (m0 + 1) o y7 y8 y9 y3 y1 y2 =
 Xq (.bin .lss (.c y9) (.c y8)) (fun x7 =>
 Xc x7 (fun _ =>
 Xq (.ias 7 (.c y7) (.c y9)) (fun x8 =>
 Xx call o 12 (.ld true 7 (.c x8)) (fun x9 ox9 =>
 Xx call ox9 5 (.alloc [(.v (.string ⟨#[]⟩)), (.v (.int .i64 0)), (.v (.int .i64 0)), (.v (.string ⟨#[]⟩)), (.v (.bool false)), (.v (.bool false)), (.v (.string ⟨#[]⟩))] [0, 0, 0, 0, 0, 0, 0]) (fun x10 ox10 =>
 Xv ox10 7 x10 x9 (fun ox11 =>
 Xq (.fad (.c x10) 0) (fun x12 =>
 Xx call ox11 15 (.ld false 1 (.c x12)) (fun x13 ox13 =>
 Xx call ox13 16 (.bsl 1 1 [(.v (.string ⟨#[]⟩))] [(0, (.c x13))]) (fun x14 ox14 =>
 Xa ox14 17 false 1 16 y3 x14 (fun x15 ox15 =>
 Xq (.bin .add (.c y9) (.c (.v (.int .i64 1)))) (fun x16 =>
 R_schema_fieldNames_0 call G n m0 (maskO k_schema_fieldNames_0 ox15) (msk k_schema_fieldNames_0 y7) (msk k_schema_fieldNames_0 y8) (msk k_schema_fieldNames_0 x16) (msk k_schema_fieldNames_0 x15) (msk k_schema_fieldNames_0 y1) (msk k_schema_fieldNames_0 y2)) ()) ()) ()) ()) ()) ()) ()) ()) ()) (fun _ =>
 Xr o [some y3]) () ()) () := by kernel_rfl
set_option maxRecDepth 100000 in
theorem s_schema_fieldNames (call : Eng.Call) (G : Nat → AV) (n : Nat) (x0 : AV) : denFE call G v_schema_fieldNames n c_schema_fieldNames [x0] =
 Xx call [] 1 (.box 3 [0, 7, 1] (.c x0)) (fun x1 ox1 =>
 Xx call ox1 2 (.nil 1) (fun x2 ox2 =>
 Xx call ox2 3 (.nil 1) (fun x3 ox3 =>
 Xq (.fad (.c x1) 1) (fun x4 =>
 Xx call ox3 7 (.ld false 1 (.c x4)) (fun x5 ox5 =>
 Xq (.len false (.c x5)) (fun x6 =>
 R_schema_fieldNames_0 call G n n (maskO k_schema_fieldNames_0 ox5) (msk k_schema_fieldNames_0 x5) (msk k_schema_fieldNames_0 x6) (msk k_schema_fieldNames_0 (.v (.int .i64 0))) (msk k_schema_fieldNames_0 x3) (msk k_schema_fieldNames_0 x1) (msk k_schema_fieldNames_0 x2)) ()) ()) ()) ()) ()) () := by kernel_rfl
def c_slices_ContainsFunc_Lapi_Field_api_Field_ : CF := ⟨2, 9,
  .seq (.reg [] [
  ⟨(some 4), none, .mv (.c (.v (.bool false)))⟩]) (
  .seq (.reg [] [
  ⟨(some 5), none, .mv (.t 0)⟩,
  ⟨(some 6), none, .mv (.t 1)⟩,
  ⟨(some 7), none, .call false i_slices_IndexFunc_Lapi_Field_api_Field_ [(.t 5), (.t 6)]⟩,
  ⟨(some 8), none, .bin .geq (.t 7) (.c (.v (.int .i64 0)))⟩,
  ⟨(some 4), none, .mv (.t 8)⟩]) (
  .ret)),
  [.t 4]⟩
def v_slices_ContainsFunc_Lapi_Field_api_Field_ : List Nat := []
set_option maxRecDepth 100000 in
theorem s_slices_ContainsFunc_Lapi_Field_api_Field_ (call : Eng.Call) (G : Nat → AV) (n : Nat) (x0 x1 : AV) : denFE call G v_slices_ContainsFunc_Lapi_Field_api_Field_ n c_slices_ContainsFunc_Lapi_Field_api_Field_ [x0, x1] =
 Xx call [] 7 (.call false i_slices_IndexFunc_Lapi_Field_api_Field_ [(.c x0), (.c x1)]) (fun x2 ox2 =>
 Xq (.bin .geq (.c x2) (.c (.v (.int .i64 0)))) (fun x3 =>
 Xr ox2 [some x3]) ()) () := by kernel_rfl
def c_schema_twice_2_1 : CF := ⟨2, 13,
  .seq (.reg [] [
  ⟨(some 2), none, .box 7 [0, 0, 0, 0, 0, 0, 0] (.t 0)⟩,
  ⟨(some 3), none, .mv (.c (.v (.bool false)))⟩]) (
  .seq (.reg [] [
  ⟨(some 4), none, .fad (.t 2) 6⟩,
  ⟨(some 5), none, .ld false 1 (.t 4)⟩,
  ⟨(some 6), none, .bin .neq (.t 5) (.c (.v (.string ⟨#[]⟩)))⟩,
  ⟨(some 7), none, .mv (.t 6)⟩,
  ⟨(some 8), (some (7, true)), .ld false 1 (.t 1)⟩,
  ⟨(some 9), (some (7, true)), .fad (.t 2) 6⟩,
  ⟨(some 10), (some (7, true)), .ld false 1 (.t 9)⟩,
  ⟨(some 11), (some (7, true)), .call false i_slices_Contains_Lstring_string_ [(.t 8), (.t 10)]⟩,
  ⟨(some 12), none, .pick (.t 7) (.t 11) (.c (.v (.bool false)))⟩,
  ⟨(some 3), none, .mv (.t 12)⟩]) (
  .ret)),
  [.t 3]⟩
def v_schema_twice_2_1 : List Nat := []
set_option maxRecDepth 100000 in
theorem s_schema_twice_2_1 (call : Eng.Call) (G : Nat → AV) (n : Nat) (x0 x1 : AV) : denFE call G v_schema_twice_2_1 n c_schema_twice_2_1 [x0, x1] =
 Xx call [] 2 (.box 7 [0, 0, 0, 0, 0, 0, 0] (.c x0)) (fun x2 ox2 =>
 Xq (.fad (.c x2) 6) (fun x3 =>
 Xx call ox2 5 (.ld false 1 (.c x3)) (fun x4 ox4 =>
 Xq (.bin .neq (.c x4) (.c (.v (.string ⟨#[]⟩)))) (fun x5 =>
 Xxg call x5 true ox4 8 (.ld false 1 (.c x1)) (fun x6 ox6 =>
 Xgq x5 true (.fad (.c x2) 6) (fun x7 =>
 Xxg call x5 true ox6 10 (.ld false 1 (.c x7)) (fun x8 ox8 =>
 Xxg call x5 true ox8 11 (.call false i_slices_Contains_Lstring_string_ [(.c x6), (.c x8)]) (fun x9 ox9 =>
 Xq (.pick (.c x5) (.c x9) (.c (.v (.bool false)))) (fun x10 =>
 Xr ox9 [some x10]) ()) ()) ()) ()) ()) ()) ()) ()) () := by kernel_rfl
def c_slices_Contains_Lstring_string_ : CF := ⟨2, 9,
  .seq (.reg [] [
  ⟨(some 4), none, .mv (.c (.v (.bool false)))⟩]) (
  .seq (.reg [] [
  ⟨(some 5), none, .mv (.t 0)⟩,
  ⟨(some 6), none, .mv (.t 1)⟩,
  ⟨(some 7), none, .call false i_slices_Index_Lstring_string_ [(.t 5), (.t 6)]⟩,
  ⟨(some 8), none, .bin .geq (.t 7) (.c (.v (.int .i64 0)))⟩,
  ⟨(some 4), none, .mv (.t 8)⟩]) (
  .ret)),
  [.t 4]⟩
def v_slices_Contains_Lstring_string_ : List Nat := []
set_option maxRecDepth 100000 in
theorem s_slices_Contains_Lstring_string_ (call : Eng.Call) (G : Nat → AV) (n : Nat) (x0 x1 : AV) : denFE call G v_slices_Contains_Lstring_string_ n c_slices_Contains_Lstring_string_ [x0, x1] =
 Xx call [] 7 (.call false i_slices_Index_Lstring_string_ [(.c x0), (.c x1)]) (fun x2 ox2 =>
 Xq (.bin .geq (.c x2) (.c (.v (.int .i64 0)))) (fun x3 =>
 Xr ox2 [some x3]) ()) () := by kernel_rfl
def k_ident_Rise_0 : List Nat := [0, 5, 6, 7]
def c_ident_Rise_b0 : CC := .seq (.reg [] [
  ⟨(some 8), none, .bin .lss (.t 7) (.t 6)⟩]) (
  .seq (.cond (.t 8) (
  .skip) (
  .exit 0)) (
  .seq (.block 1 (
  .seq (.reg [] [
  ⟨(some 9), none, .mv (.t 7)⟩,
  ⟨(some 10), none, .ias 1 (.t 5) (.t 7)⟩,
  ⟨(some 11), none, .ld false 1 (.t 10)⟩,
  ⟨(some 3), none, .mv (.t 9)⟩,
  ⟨(some 4), none, .mv (.t 11)⟩]) (
  .seq (.reg [] [
  ⟨(some 12), none, .mv (.t 3)⟩,
  ⟨(some 13), none, .bin .gtr (.t 12) (.c (.v (.int .i64 0)))⟩,
  ⟨(some 14), none, .mv (.t 13)⟩,
  ⟨(some 15), (some (14, true)), .mv (.t 0)⟩,
  ⟨(some 16), (some (14, true)), .mv (.t 3)⟩,
  ⟨(some 17), (some (14, true)), .bin .sub (.t 16) (.c (.v (.int .i64 1)))⟩,
  ⟨(some 18), (some (14, true)), .ias 1 (.t 15) (.t 17)⟩,
  ⟨(some 19), (some (14, true)), .ld false 1 (.t 18)⟩,
  ⟨(some 20), (some (14, true)), .mv (.t 4)⟩,
  ⟨(some 21), (some (14, true)), .bin .geq (.t 19) (.t 20)⟩,
  ⟨(some 22), none, .pick (.t 14) (.t 21) (.c (.v (.bool false)))⟩]) (
  .cond (.t 22) (
  .seq (.reg [] [
  ⟨(some 2), none, .mv (.c (.v (.bool false)))⟩]) (
  .ret)) (
  .skip))))) (
  .reg [] [
  ⟨(some 23), none, .bin .add (.t 7) (.c (.v (.int .i64 1)))⟩,
  ⟨(some 7), none, .mv (.t 23)⟩])))
def c_ident_Rise_s0 : CC := .seq (.reg [] [
  ⟨(some 2), none, .mv (.c (.v (.bool true)))⟩]) (
  .ret)
def c_ident_Rise : CF := ⟨1, 24,
  .seq (.reg [] [
  ⟨(some 2), none, .mv (.c (.v (.bool false)))⟩]) (
  .seq (.seq (.reg [] [
  ⟨(some 5), none, .mv (.t 0)⟩,
  ⟨(some 6), none, .len false (.t 5)⟩,
  ⟨(some 7), none, .mv (.c (.v (.int .i64 0)))⟩]) (
  .block 0 (
  .loop k_ident_Rise_0 c_ident_Rise_b0))) c_ident_Rise_s0),
  [.t 2]⟩
def v_ident_Rise : List Nat := []
def R_ident_Rise_0 (call : Eng.Call) (G : Nat → AV) (n m0 : Nat) (o : Objs) (y0 y5 y6 y7 : AV) : Out := roundsE k_ident_Rise_0 (denE 24 call G v_ident_Rise n c_ident_Rise_b0) m0 [y0, y5, y6, y7] o (eBlock 0 (eSeq (denE 24 call G v_ident_Rise n c_ident_Rise_s0) (eEnd [.t 2])))
set_option maxRecDepth 100000 in
theorem R_ident_Rise_0_s (call : Eng.Call) (G : Nat → AV) (n m0 : Nat) (o : Objs) (y0 y5 y6 y7 : AV) : R_ident_Rise_0 call G n (m0 + 1) o y0 y5 y6 y7 =
 Xq (.bin .lss (.c y7) (.c y6)) (fun x2 =>
 Xc x2 (fun _ =>
 Xq (.ias 1 (.c y5) (.c y7)) (fun x3 =>
 Xx call o 11 (.ld false 1 (.c x3)) (fun x4 ox4 =>
 Xq (.bin .gtr (.c y7) (.c (.v (.int .i64 0)))) (fun x5 =>
 Xgq x5 true (.mv (.c y0)) (fun x6 =>
 Xgq x5 true (.mv (.c y7)) (fun x7 =>
 Xgq x5 true (.bin .sub (.c x7) (.c (.v (.int .i64 1)))) (fun x8 =>
 Xgq x5 true (.ias 1 (.c x6) (.c x8)) (fun x9 =>
 Xxg call x5 true ox4 19 (.ld false 1 (.c x9)) (fun x10 ox10 =>
 Xgq x5 true (.mv (.c x4)) (fun x11 =>
 Xgq x5 true (.bin .geq (.c x10) (.c x11)) (fun x12 =>
 Xq (.pick (.c x5) (.c x12) (.c (.v (.bool false)))) (fun x13 =>
 Xc x13 (fun _ =>
 Xr ox10 [some (.v (.bool false))]) (fun _ =>
 Xq (.bin .add (.c y7) (.c (.v (.int .i64 1)))) (fun x14 =>
 R_ident_Rise_0 call G n m0 (maskO k_ident_Rise_0 ox10) (msk k_ident_Rise_0 y0) (msk k_ident_Rise_0 y5) (msk k_ident_Rise_0 y6) (msk k_ident_Rise_0 x14)) ()) () ()) ()) ()) ()) ()) ()) ()) ()) ()) ()) ()) ()) (fun _ =>
 Xr o [some (.v (.bool true))]) () ()) () := by kernel_rfl
set_option maxRecDepth 100000 in
theorem s_ident_Rise (call : Eng.Call) (G : Nat → AV) (n : Nat) (x0 : AV) : denFE call G v_ident_Rise n c_ident_Rise [x0] =
 Xq (.len false (.c x0)) (fun x1 =>
 R_ident_Rise_0 call G n n (maskO k_ident_Rise_0 []) (msk k_ident_Rise_0 x0) (msk k_ident_Rise_0 x0) (msk k_ident_Rise_0 x1) (msk k_ident_Rise_0 (.v (.int .i64 0)))) () := by kernel_rfl
def c_schema_disordered_1 : CF := ⟨1, 6,
  .seq (.reg [] [
  ⟨(some 1), none, .box 2 [0, 2] (.t 0)⟩,
  ⟨(some 2), none, .mv (.c (.v (.bool false)))⟩]) (
  .seq (.reg [] [
  ⟨(some 3), none, .ld true 2 (.t 1)⟩,
  ⟨(some 4), none, .call false i_schema_valued [(.t 3)]⟩,
  ⟨(some 5), none, .not (.t 4)⟩,
  ⟨(some 2), none, .mv (.t 5)⟩]) (
  .ret)),
  [.t 2]⟩
def v_schema_disordered_1 : List Nat := []
set_option maxRecDepth 100000 in
theorem s_schema_disordered_1 (call : Eng.Call) (G : Nat → AV) (n : Nat) (x0 : AV) : denFE call G v_schema_disordered_1 n c_schema_disordered_1 [x0] =
 Xx call [] 1 (.box 2 [0, 2] (.c x0)) (fun x1 ox1 =>
 Xx call ox1 3 (.ld true 2 (.c x1)) (fun x2 ox2 =>
 Xx call ox2 4 (.call false i_schema_valued [(.c x2)]) (fun x3 ox3 =>
 Xq (.not (.c x3)) (fun x4 =>
 Xr ox3 [some x4]) ()) ()) ()) () := by kernel_rfl
def k_schema_valued_0 : List Nat := [7, 8, 9, 3, 1]
def c_schema_valued_b0 : CC := .seq (.reg [] [
  ⟨(some 10), none, .bin .lss (.t 9) (.t 8)⟩]) (
  .seq (.cond (.t 10) (
  .skip) (
  .exit 0)) (
  .seq (.block 1 (
  .seq (.reg [] [
  ⟨(some 11), none, .ias 2 (.t 7) (.t 9)⟩,
  ⟨(some 12), none, .ld true 2 (.t 11)⟩,
  ⟨(some 5), none, .alloc [(.v (.string ⟨#[]⟩)), (.v (.int .i64 0))] [0, 0]⟩,
  ⟨none, none, .st 2 (.t 5) (.t 12)⟩]) (
  .reg [] [
  ⟨(some 13), none, .mv (.t 3)⟩,
  ⟨(some 14), none, .fad (.t 5) 1⟩,
  ⟨(some 15), none, .ld false 1 (.t 14)⟩,
  ⟨(some 16), none, .bsl 1 1 [(.v (.int .i64 0))] [(0, (.t 15))]⟩,
  ⟨(some 17), none, .app false 1 8 (.t 13) (.t 16)⟩,
  ⟨(some 3), none, .mv (.t 17)⟩]))) (
  .reg [] [
  ⟨(some 18), none, .bin .add (.t 9) (.c (.v (.int .i64 1)))⟩,
  ⟨(some 9), none, .mv (.t 18)⟩])))
def c_schema_valued_s0 : CC := .seq (.reg [] [
  ⟨(some 19), none, .mv (.t 3)⟩,
  ⟨(some 20), none, .call false i_schema_rises [(.t 19)]⟩,
  ⟨(some 21), none, .mv (.t 20)⟩,
  ⟨(some 22), (some (21, true)), .mv (.t 3)⟩,
  ⟨(some 23), (some (21, true)), .ias 1 (.t 22) (.c (.v (.int .i64 0)))⟩,
  ⟨(some 24), (some (21, true)), .ld false 1 (.t 23)⟩,
  ⟨(some 25), (some (21, true)), .bin .eql (.t 24) (.c (.v (.int .i64 0)))⟩,
  ⟨(some 26), none, .pick (.t 21) (.t 25) (.c (.v (.bool false)))⟩,
  ⟨(some 27), none, .mv (.t 26)⟩,
  ⟨(some 28), (some (27, true)), .mv (.t 3)⟩,
  ⟨(some 29), (some (27, true)), .mv (.t 3)⟩,
  ⟨(some 30), (some (27, true)), .len false (.t 29)⟩,
  ⟨(some 31), (some (27, true)), .bin .sub (.t 30) (.c (.v (.int .i64 1)))⟩,
  ⟨(some 32), (some (27, true)), .ias 1 (.t 28) (.t 31)⟩,
  ⟨(some 33), (some (27, true)), .ld false 1 (.t 32)⟩,
  ⟨(some 34), (some (27, true)), .bin .leq (.t 33) (.c (.v (.int .i64 1048576)))⟩,
  ⟨(some 35), none, .pick (.t 27) (.t 34) (.c (.v (.bool false)))⟩,
  ⟨(some 2), none, .mv (.t 35)⟩]) (
  .ret)
def c_schema_valued : CF := ⟨1, 36,
  .seq (.reg [] [
  ⟨(some 1), none, .box 2 [0, 2] (.t 0)⟩,
  ⟨(some 2), none, .mv (.c (.v (.bool false)))⟩]) (
  .seq (.reg [] [
  ⟨(some 3), none, .nil 1⟩]) (
  .seq (.seq (.reg [] [
  ⟨(some 6), none, .fad (.t 1) 1⟩,
  ⟨(some 7), none, .ld false 1 (.t 6)⟩,
  ⟨(some 8), none, .len false (.t 7)⟩,
  ⟨(some 9), none, .mv (.c (.v (.int .i64 0)))⟩]) (
  .block 0 (
  .loop k_schema_valued_0 c_schema_valued_b0))) c_schema_valued_s0)),
  [.t 2]⟩
def v_schema_valued : List Nat := [5]
def R_schema_valued_0 (call : Eng.Call) (G : Nat → AV) (n m0 : Nat) (o : Objs) (y7 y8 y9 y3 y1 : AV) : Out := roundsE k_schema_valued_0 (denE 36 call G v_schema_valued n c_schema_valued_b0) m0 [y7, y8, y9, y3, y1] o (eBlock 0 (eSeq (denE 36 call G v_schema_valued n c_schema_valued_s0) (eEnd [.t 2])))
set_option maxRecDepth 100000 in
theorem R_schema_valued_0_s (call : Eng.Call) (G : Nat → AV) (n m0 : Nat) (o : Objs) (y7 y8 y9 y3 y1 : AV) : R_schema_valued_0 call G n (m0 + 1) o y7 y8 y9 y3 y1 =
 Xq (.bin .lss (.c y9) (.c y8)) (fun x6 =>
 Xc x6 (fun _ =>
 Xq (.ias 2 (.c y7) (.c y9)) (fun x7 =>
 Xx call o 12 (.ld true 2 (.c x7)) (fun x8 ox8 =>
 Xx call ox8 5 (.alloc [(.v (.string ⟨#[]⟩)), (.v (.int .i64 0))] [0, 0]) (fun x9 ox9 =>
 Xv ox9 2 x9 x8 (fun ox10 =>
 Xq (.fad (.c x9) 1) (fun x11 =>
 Xx call ox10 15 (.ld false 1 (.c x11)) (fun x12 ox12 =>
 Xx call ox12 16 (.bsl 1 1 [(.v (.int .i64 0))] [(0, (.c x12))]) (fun x13 ox13 =>
 Xa ox13 17 false 1 8 y3 x13 (fun x14 ox14 =>
 Xq (.bin .add (.c y9) (.c (.v (.int .i64 1)))) (fun x15 =>
 R_schema_valued_0 call G n m0 (maskO k_schema_valued_0 ox14) (msk k_schema_valued_0 y7) (msk k_schema_valued_0 y8) (msk k_schema_valued_0 x15) (msk k_schema_valued_0 x14) (msk k_schema_valued_0 y1)) ()) ()) ()) ()) ()) ()) ()) ()) ()) (fun _ =>
 Xx call o 20 (.call false i_schema_rises [(.c y3)]) (fun x16 ox16 =>
 Xgq x16 true (.mv (.c y3)) (fun x17 =>
 Xgq x16 true (.ias 1 (.c x17) (.c (.v (.int .i64 0)))) (fun x18 =>
 Xxg call x16 true ox16 24 (.ld false 1 (.c x18)) (fun x19 ox19 =>
 Xgq x16 true (.bin .eql (.c x19) (.c (.v (.int .i64 0)))) (fun x20 =>
 Xq (.pick (.c x16) (.c x20) (.c (.v (.bool false)))) (fun x21 =>
 Xgq x21 true (.mv (.c y3)) (fun x22 =>
 Xgq x21 true (.mv (.c y3)) (fun x23 =>
 Xgq x21 true (.len false (.c x23)) (fun x24 =>
 Xgq x21 true (.bin .sub (.c x24) (.c (.v (.int .i64 1)))) (fun x25 =>
 Xgq x21 true (.ias 1 (.c x22) (.c x25)) (fun x26 =>
 Xxg call x21 true ox19 33 (.ld false 1 (.c x26)) (fun x27 ox27 =>
 Xgq x21 true (.bin .leq (.c x27) (.c (.v (.int .i64 1048576)))) (fun x28 =>
 Xq (.pick (.c x21) (.c x28) (.c (.v (.bool false)))) (fun x29 =>
 Xr ox27 [some x29]) ()) ()) ()) ()) ()) ()) ()) ()) ()) ()) ()) ()) ()) ()) () ()) () := by kernel_rfl
set_option maxRecDepth 100000 in
theorem s_schema_valued (call : Eng.Call) (G : Nat → AV) (n : Nat) (x0 : AV) : denFE call G v_schema_valued n c_schema_valued [x0] =
 Xx call [] 1 (.box 2 [0, 2] (.c x0)) (fun x1 ox1 =>
 Xx call ox1 3 (.nil 1) (fun x2 ox2 =>
 Xq (.fad (.c x1) 1) (fun x3 =>
 Xx call ox2 7 (.ld false 1 (.c x3)) (fun x4 ox4 =>
 Xq (.len false (.c x4)) (fun x5 =>
 R_schema_valued_0 call G n n (maskO k_schema_valued_0 ox4) (msk k_schema_valued_0 x4) (msk k_schema_valued_0 x5) (msk k_schema_valued_0 (.v (.int .i64 0))) (msk k_schema_valued_0 x2) (msk k_schema_valued_0 x1)) ()) ()) ()) ()) () := by kernel_rfl
def c_schema_disordered_2 : CF := ⟨1, 6,
  .seq (.reg [] [
  ⟨(some 1), none, .box 3 [0, 7, 1] (.t 0)⟩,
  ⟨(some 2), none, .mv (.c (.v (.bool false)))⟩]) (
  .seq (.reg [] [
  ⟨(some 3), none, .ld true 3 (.t 1)⟩,
  ⟨(some 4), none, .call false i_schema_numbered [(.t 3)]⟩,
  ⟨(some 5), none, .not (.t 4)⟩,
  ⟨(some 2), none, .mv (.t 5)⟩]) (
  .ret)),
  [.t 2]⟩
def v_schema_disordered_2 : List Nat := []
set_option maxRecDepth 100000 in
theorem s_schema_disordered_2 (call : Eng.Call) (G : Nat → AV) (n : Nat) (x0 : AV) : denFE call G v_schema_disordered_2 n c_schema_disordered_2 [x0] =
 Xx call [] 1 (.box 3 [0, 7, 1] (.c x0)) (fun x1 ox1 =>
 Xx call ox1 3 (.ld true 3 (.c x1)) (fun x2 ox2 =>
 Xx call ox2 4 (.call false i_schema_numbered [(.c x2)]) (fun x3 ox3 =>
 Xq (.not (.c x3)) (fun x4 =>
 Xr ox3 [some x4]) ()) ()) ()) () := by kernel_rfl
def k_schema_numbered_0 : List Nat := [8, 1, 9, 10, 3]
def c_schema_numbered_b0 : CC := .seq (.reg [] [
  ⟨(some 11), none, .bin .lss (.t 10) (.t 9)⟩]) (
  .seq (.cond (.t 11) (
  .skip) (
  .exit 0)) (
  .seq (.block 1 (
  .seq (.reg [] [
  ⟨(some 12), none, .ias 7 (.t 8) (.t 10)⟩,
  ⟨(some 13), none, .ld true 7 (.t 12)⟩,
  ⟨(some 5), none, .alloc [(.v (.string ⟨#[]⟩)), (.v (.int .i64 0)), (.v (.int .i64 0)), (.v (.string ⟨#[]⟩)), (.v (.bool false)), (.v (.bool false)), (.v (.string ⟨#[]⟩))] [0, 0, 0, 0, 0, 0, 0]⟩,
  ⟨none, none, .st 7 (.t 5) (.t 13)⟩]) (
  .reg [] [
  ⟨(some 14), none, .mv (.t 3)⟩,
  ⟨(some 15), none, .fad (.t 5) 1⟩,
  ⟨(some 16), none, .ld false 1 (.t 15)⟩,
  ⟨(some 17), none, .bsl 1 1 [(.v (.int .i64 0))] [(0, (.t 16))]⟩,
  ⟨(some 18), none, .app false 1 8 (.t 14) (.t 17)⟩,
  ⟨(some 3), none, .mv (.t 18)⟩]))) (
  .reg [] [
  ⟨(some 19), none, .bin .add (.t 10) (.c (.v (.int .i64 1)))⟩,
  ⟨(some 10), none, .mv (.t 19)⟩])))
def c_schema_numbered_s0 : CC := .seq (.reg [] [
  ⟨(some 6), none, .mv (.c (.fn i_schema_numbered_1 []))⟩]) (
  .seq (.reg [] [
  ⟨(some 20), none, .mv (.t 3)⟩,
  ⟨(some 21), none, .call false i_schema_rises [(.t 20)]⟩,
  ⟨(some 22), none, .mv (.t 21)⟩,
  ⟨(some 23), (some (22, true)), .fad (.t 1) 2⟩,
  ⟨(some 24), (some (22, true)), .ld false 1 (.t 23)⟩,
  ⟨(some 25), (some (22, true)), .call false i_schema_rises [(.t 24)]⟩,
  ⟨(some 26), none, .pick (.t 22) (.t 25) (.c (.v (.bool false)))⟩,
  ⟨(some 27), none, .mv (.t 26)⟩,
  ⟨(some 28), (some (27, true)), .fad (.t 1) 2⟩,
  ⟨(some 29), (some (27, true)), .ld false 1 (.t 28)⟩,
  ⟨(some 30), (some (27, true)), .mv (.t 6)⟩,
  ⟨(some 31), (some (27, true)), .call false i_slices_ContainsFunc_Lint_int_ [(.t 29), (.t 30)]⟩,
  ⟨(some 32), (some (27, true)), .not (.t 31)⟩,
  ⟨(some 33), none, .pick (.t 27) (.t 32) (.c (.v (.bool false)))⟩,
  ⟨(some 2), none, .mv (.t 33)⟩]) (
  .ret))
def c_schema_numbered : CF := ⟨1, 34,
  .seq (.reg [] [
  ⟨(some 1), none, .box 3 [0, 7, 1] (.t 0)⟩,
  ⟨(some 2), none, .mv (.c (.v (.bool false)))⟩]) (
  .seq (.reg [] [
  ⟨(some 3), none, .nil 1⟩]) (
  .seq (.seq (.reg [] [
  ⟨(some 7), none, .fad (.t 1) 1⟩,
  ⟨(some 8), none, .ld false 1 (.t 7)⟩,
  ⟨(some 9), none, .len false (.t 8)⟩,
  ⟨(some 10), none, .mv (.c (.v (.int .i64 0)))⟩]) (
  .block 0 (
  .loop k_schema_numbered_0 c_schema_numbered_b0))) c_schema_numbered_s0)),
  [.t 2]⟩
def v_schema_numbered : List Nat := [5]
def R_schema_numbered_0 (call : Eng.Call) (G : Nat → AV) (n m0 : Nat) (o : Objs) (y8 y1 y9 y10 y3 : AV) : Out := roundsE k_schema_numbered_0 (denE 34 call G v_schema_numbered n c_schema_numbered_b0) m0 [y8, y1, y9, y10, y3] o (eBlock 0 (eSeq (denE 34 call G v_schema_numbered n c_schema_numbered_s0) (eEnd [.t 2])))
set_option maxRecDepth 100000 in
theorem R_schema_numbered_0_s (call : Eng.Call) (G : Nat → AV) (n m0 : Nat) (o : Objs) (y8 y1 y9 y10 y3 : AV) : R_schema_numbered_0 call G n (m0 + 1) o y8 y1 y9 y10 y3 =
 Xq (.bin .lss (.c y10) (.c y9)) (fun x6 =>
 Xc x6 (fun _ =>
 Xq (.ias 7 (.c y8) (.c y10)) (fun x7 =>
 Xx call o 13 (.ld true 7 (.c x7)) (fun x8 ox8 =>
 Xx call ox8 5 (.alloc [(.v (.string ⟨#[]⟩)), (.v (.int .i64 0)), (.v (.int .i64 0)), (.v (.string ⟨#[]⟩)), (.v (.bool false)), (.v (.bool false)), (.v (.string ⟨#[]⟩))] [0, 0, 0, 0, 0, 0, 0]) (fun x9 ox9 =>
 Xv ox9 7 x9 x8 (fun ox10 =>
 Xq (.fad (.c x9) 1) (fun x11 =>
 Xx call ox10 16 (.ld false 1 (.c x11)) (fun x12 ox12 =>
 Xx call ox12 17 (.bsl 1 1 [(.v (.int .i64 0))] [(0, (.c x12))]) (fun x13 ox13 =>
 Xa ox13 18 false 1 8 y3 x13 (fun x14 ox14 =>
 Xq (.bin .add (.c y10) (.c (.v (.int .i64 1)))) (fun x15 =>
 R_schema_numbered_0 call G n m0 (maskO k_schema_numbered_0 ox14) (msk k_schema_numbered_0 y8) (msk k_schema_numbered_0 y1) (msk k_schema_numbered_0 y9) (msk k_schema_numbered_0 x15) (msk k_schema_numbered_0 x14)) ()) ()) ()) ()) ()) ()) ()) ()) ()) (fun _ =>
 Xx call o 21 (.call false i_schema_rises [(.c y3)]) (fun x16 ox16 =>
 Xgq x16 true (.fad (.c y1) 2) (fun x17 =>
 Xxg call x16 true ox16 24 (.ld false 1 (.c x17)) (fun x18 ox18 =>
 Xxg call x16 true ox18 25 (.call false i_schema_rises [(.c x18)]) (fun x19 ox19 =>
 Xq (.pick (.c x16) (.c x19) (.c (.v (.bool false)))) (fun x20 =>
 Xgq x20 true (.fad (.c y1) 2) (fun x21 =>
 Xxg call x20 true ox19 29 (.ld false 1 (.c x21)) (fun x22 ox22 =>
 Xgq x20 true (.mv (.c (.fn i_schema_numbered_1 []))) (fun x23 =>
 Xxg call x20 true ox22 31 (.call false i_slices_ContainsFunc_Lint_int_ [(.c x22), (.c x23)]) (fun x24 ox24 =>
 Xgq x20 true (.not (.c x24)) (fun x25 =>
 Xq (.pick (.c x20) (.c x25) (.c (.v (.bool false)))) (fun x26 =>
 Xr ox24 [some x26]) ()) ()) ()) ()) ()) ()) ()) ()) ()) ()) ()) () ()) () := by kernel_rfl
set_option maxRecDepth 100000 in
theorem s_schema_numbered (call : Eng.Call) (G : Nat → AV) (n : Nat) (x0 : AV) : denFE call G v_schema_numbered n c_schema_numbered [x0] =
 Xx call [] 1 (.box 3 [0, 7, 1] (.c x0)) (fun x1 ox1 =>
 Xx call ox1 3 (.nil 1) (fun x2 ox2 =>
 Xq (.fad (.c x1) 1) (fun x3 =>
 Xx call ox2 8 (.ld false 1 (.c x3)) (fun x4 ox4 =>
 Xq (.len false (.c x4)) (fun x5 =>
 R_schema_numbered_0 call G n n (maskO k_schema_numbered_0 ox4) (msk k_schema_numbered_0 x4) (msk k_schema_numbered_0 x1) (msk k_schema_numbered_0 x5) (msk k_schema_numbered_0 (.v (.int .i64 0))) (msk k_schema_numbered_0 x2)) ()) ()) ()) ()) () := by kernel_rfl
def c_schema_barred_1 : CF := ⟨1, 7,
  .seq (.reg [] [
  ⟨(some 1), none, .box 3 [0, 7, 1] (.t 0)⟩,
  ⟨(some 2), none, .mv (.c (.v (.bool false)))⟩]) (
  .seq (.reg [] [
  ⟨(some 3), none, .fad (.t 1) 1⟩,
  ⟨(some 4), none, .ld false 1 (.t 3)⟩,
  ⟨(some 5), none, .mkf i_schema_barred_1_1 [(.t 1)]⟩,
  ⟨(some 6), none, .call false i_slices_ContainsFunc_Lapi_Field_api_Field_ [(.t 4), (.t 5)]⟩,
  ⟨(some 2), none, .mv (.t 6)⟩]) (
  .ret)),
  [.t 2]⟩
def v_schema_barred_1 : List Nat := []
set_option maxRecDepth 100000 in
theorem s_schema_barred_1 (call : Eng.Call) (G : Nat → AV) (n : Nat) (x0 : AV) : denFE call G v_schema_barred_1 n c_schema_barred_1 [x0] =
 Xx call [] 1 (.box 3 [0, 7, 1] (.c x0)) (fun x1 ox1 =>
 Xq (.fad (.c x1) 1) (fun x2 =>
 Xx call ox1 4 (.ld false 1 (.c x2)) (fun x3 ox3 =>
 Xx call ox3 5 (.mkf i_schema_barred_1_1 [(.c x1)]) (fun x4 ox4 =>
 Xx call ox4 6 (.call false i_slices_ContainsFunc_Lapi_Field_api_Field_ [(.c x3), (.c x4)]) (fun x5 ox5 =>
 Xr ox5 [some x5]) ()) ()) ()) ()) () := by kernel_rfl
def c_schema_barred_1_1 : CF := ⟨2, 9,
  .seq (.reg [] [
  ⟨(some 2), none, .box 7 [0, 0, 0, 0, 0, 0, 0] (.t 0)⟩,
  ⟨(some 3), none, .mv (.c (.v (.bool false)))⟩]) (
  .seq (.reg [] [
  ⟨(some 4), none, .fad (.t 1) 2⟩,
  ⟨(some 5), none, .ld false 1 (.t 4)⟩,
  ⟨(some 6), none, .fad (.t 2) 1⟩,
  ⟨(some 7), none, .ld false 1 (.t 6)⟩,
  ⟨(some 8), none, .call false i_slices_Contains_Lint_int_ [(.t 5), (.t 7)]⟩,
  ⟨(some 3), none, .mv (.t 8)⟩]) (
  .ret)),
  [.t 3]⟩
def v_schema_barred_1_1 : List Nat := []
set_option maxRecDepth 100000 in
theorem s_schema_barred_1_1 (call : Eng.Call) (G : Nat → AV) (n : Nat) (x0 x1 : AV) : denFE call G v_schema_barred_1_1 n c_schema_barred_1_1 [x0, x1] =
 Xx call [] 2 (.box 7 [0, 0, 0, 0, 0, 0, 0] (.c x0)) (fun x2 ox2 =>
 Xq (.fad (.c x1) 2) (fun x3 =>
 Xx call ox2 5 (.ld false 1 (.c x3)) (fun x4 ox4 =>
 Xq (.fad (.c x2) 1) (fun x5 =>
 Xx call ox4 7 (.ld false 1 (.c x5)) (fun x6 ox6 =>
 Xx call ox6 8 (.call false i_slices_Contains_Lint_int_ [(.c x4), (.c x6)]) (fun x7 ox7 =>
 Xr ox7 [some x7]) ()) ()) ()) ()) ()) () := by kernel_rfl
def c_slices_Contains_Lint_int_ : CF := ⟨2, 9,
  .seq (.reg [] [
  ⟨(some 4), none, .mv (.c (.v (.bool false)))⟩]) (
  .seq (.reg [] [
  ⟨(some 5), none, .mv (.t 0)⟩,
  ⟨(some 6), none, .mv (.t 1)⟩,
  ⟨(some 7), none, .call false i_slices_Index_Lint_int_ [(.t 5), (.t 6)]⟩,
  ⟨(some 8), none, .bin .geq (.t 7) (.c (.v (.int .i64 0)))⟩,
  ⟨(some 4), none, .mv (.t 8)⟩]) (
  .ret)),
  [.t 4]⟩
def v_slices_Contains_Lint_int_ : List Nat := []
set_option maxRecDepth 100000 in
theorem s_slices_Contains_Lint_int_ (call : Eng.Call) (G : Nat → AV) (n : Nat) (x0 x1 : AV) : denFE call G v_slices_Contains_Lint_int_ n c_slices_Contains_Lint_int_ [x0, x1] =
 Xx call [] 7 (.call false i_slices_Index_Lint_int_ [(.c x0), (.c x1)]) (fun x2 ox2 =>
 Xq (.bin .geq (.c x2) (.c (.v (.int .i64 0)))) (fun x3 =>
 Xr ox2 [some x3]) ()) () := by kernel_rfl
def c_schema_lost_1 : CF := ⟨3, 9,
  .seq (.reg [] [
  ⟨(some 3), none, .box 3 [0, 7, 1] (.t 0)⟩,
  ⟨(some 4), none, .mv (.c (.v (.bool false)))⟩]) (
  .seq (.reg [] [
  ⟨(some 5), none, .fad (.t 3) 1⟩,
  ⟨(some 6), none, .ld false 1 (.t 5)⟩,
  ⟨(some 7), none, .mkf i_schema_lost_1_1 [(.t 1), (.t 2)]⟩,
  ⟨(some 8), none, .call false i_slices_ContainsFunc_Lapi_Field_api_Field_ [(.t 6), (.t 7)]⟩,
  ⟨(some 4), none, .mv (.t 8)⟩]) (
  .ret)),
  [.t 4]⟩
def v_schema_lost_1 : List Nat := []
set_option maxRecDepth 100000 in
theorem s_schema_lost_1 (call : Eng.Call) (G : Nat → AV) (n : Nat) (x0 x1 x2 : AV) : denFE call G v_schema_lost_1 n c_schema_lost_1 [x0, x1, x2] =
 Xx call [] 3 (.box 3 [0, 7, 1] (.c x0)) (fun x3 ox3 =>
 Xq (.fad (.c x3) 1) (fun x4 =>
 Xx call ox3 6 (.ld false 1 (.c x4)) (fun x5 ox5 =>
 Xx call ox5 7 (.mkf i_schema_lost_1_1 [(.c x1), (.c x2)]) (fun x6 ox6 =>
 Xx call ox6 8 (.call false i_slices_ContainsFunc_Lapi_Field_api_Field_ [(.c x5), (.c x6)]) (fun x7 ox7 =>
 Xr ox7 [some x7]) ()) ()) ()) ()) () := by kernel_rfl
def c_schema_lost_1_1 : CF := ⟨3, 27,
  .seq (.reg [] [
  ⟨(some 3), none, .box 7 [0, 0, 0, 0, 0, 0, 0] (.t 0)⟩,
  ⟨(some 4), none, .mv (.c (.v (.bool false)))⟩]) (
  .seq (.reg [] [
  ⟨(some 5), none, .fad (.t 3) 2⟩,
  ⟨(some 6), none, .ld false 1 (.t 5)⟩,
  ⟨(some 7), none, .bin .eql (.t 6) (.c (.v (.int .i64 14)))⟩,
  ⟨(some 8), none, .mv (.t 7)⟩,
  ⟨(some 9), (some (8, true)), .ld false 1 (.t 1)⟩,
  ⟨(some 10), (some (8, true)), .fad (.t 3) 3⟩,
  ⟨(some 11), (some (8, true)), .ld false 1 (.t 10)⟩,
  ⟨(some 12), (some (8, true)), .call false i_slices_Contains_Lstring_string_ [(.t 9), (.t 11)]⟩,
  ⟨(some 13), (some (8, true)), .not (.t 12)⟩,
  ⟨(some 14), none, .pick (.t 8) (.t 13) (.c (.v (.bool false)))⟩,
  ⟨(some 15), none, .mv (.t 14)⟩,
  ⟨(some 16), (some (15, false)), .fad (.t 3) 2⟩,
  ⟨(some 17), (some (15, false)), .ld false 1 (.t 16)⟩,
  ⟨(some 18), (some (15, false)), .bin .eql (.t 17) (.c (.v (.int .i64 15)))⟩,
  ⟨(some 19), (some (15, false)), .mv (.t 18)⟩,
  ⟨(some 20), (some (19, true)), .ld false 1 (.t 2)⟩,
  ⟨(some 21), (some (19, true)), .fad (.t 3) 3⟩,
  ⟨(some 22), (some (19, true)), .ld false 1 (.t 21)⟩,
  ⟨(some 23), (some (19, true)), .call false i_slices_Contains_Lstring_string_ [(.t 20), (.t 22)]⟩,
  ⟨(some 24), (some (19, true)), .not (.t 23)⟩,
  ⟨(some 25), (some (15, false)), .pick (.t 19) (.t 24) (.c (.v (.bool false)))⟩,
  ⟨(some 26), none, .pick (.t 15) (.c (.v (.bool true))) (.t 25)⟩,
  ⟨(some 4), none, .mv (.t 26)⟩]) (
  .ret)),
  [.t 4]⟩
def v_schema_lost_1_1 : List Nat := []
set_option maxRecDepth 100000 in
theorem s_schema_lost_1_1 (call : Eng.Call) (G : Nat → AV) (n : Nat) (x0 x1 x2 : AV) : denFE call G v_schema_lost_1_1 n c_schema_lost_1_1 [x0, x1, x2] =
 Xx call [] 3 (.box 7 [0, 0, 0, 0, 0, 0, 0] (.c x0)) (fun x3 ox3 =>
 Xq (.fad (.c x3) 2) (fun x4 =>
 Xx call ox3 6 (.ld false 1 (.c x4)) (fun x5 ox5 =>
 Xq (.bin .eql (.c x5) (.c (.v (.int .i64 14)))) (fun x6 =>
 Xxg call x6 true ox5 9 (.ld false 1 (.c x1)) (fun x7 ox7 =>
 Xgq x6 true (.fad (.c x3) 3) (fun x8 =>
 Xxg call x6 true ox7 11 (.ld false 1 (.c x8)) (fun x9 ox9 =>
 Xxg call x6 true ox9 12 (.call false i_slices_Contains_Lstring_string_ [(.c x7), (.c x9)]) (fun x10 ox10 =>
 Xgq x6 true (.not (.c x10)) (fun x11 =>
 Xq (.pick (.c x6) (.c x11) (.c (.v (.bool false)))) (fun x12 =>
 Xgq x12 false (.fad (.c x3) 2) (fun x13 =>
 Xxg call x12 false ox10 17 (.ld false 1 (.c x13)) (fun x14 ox14 =>
 Xgq x12 false (.bin .eql (.c x14) (.c (.v (.int .i64 15)))) (fun x15 =>
 Xgq x12 false (.mv (.c x15)) (fun x16 =>
 Xxg call x16 true ox14 20 (.ld false 1 (.c x2)) (fun x17 ox17 =>
 Xgq x16 true (.fad (.c x3) 3) (fun x18 =>
 Xxg call x16 true ox17 22 (.ld false 1 (.c x18)) (fun x19 ox19 =>
 Xxg call x16 true ox19 23 (.call false i_slices_Contains_Lstring_string_ [(.c x17), (.c x19)]) (fun x20 ox20 =>
 Xgq x16 true (.not (.c x20)) (fun x21 =>
 Xgq x12 false (.pick (.c x16) (.c x21) (.c (.v (.bool false)))) (fun x22 =>
 Xq (.pick (.c x12) (.c (.v (.bool true))) (.c x22)) (fun x23 =>
 Xr ox20 [some x23]) ()) ()) ()) ()) ()) ()) ()) ()) ()) ()) ()) ()) ()) ()) ()) ()) ()) ()) ()) ()) () := by kernel_rfl
def k_ref09_Right_0 : List Nat := [0, 3]
def c_ref09_Right_b0 : CC := .seq (.seq (.reg [] [
  ⟨(some 20), none, .mv (.t 3)⟩,
  ⟨(some 21), none, .mv (.t 0)⟩,
  ⟨(some 22), none, .len true (.t 21)⟩,
  ⟨(some 23), none, .bin .lss (.t 20) (.t 22)⟩]) (
  .cond (.t 23) (
  .skip) (
  .exit 0))) (
  .seq (.block 1 (
  .seq (.reg [] [
  ⟨(some 26), none, .mv (.t 0)⟩,
  ⟨(some 27), none, .mv (.t 3)⟩,
  ⟨(some 28), none, .ixs (.t 26) (.t 27)⟩,
  ⟨(some 29), none, .call false i_ref09_Letter [(.t 28)]⟩,
  ⟨(some 30), none, .not (.t 29)⟩,
  ⟨(some 31), none, .mv (.t 30)⟩,
  ⟨(some 32), (some (31, true)), .mv (.t 0)⟩,
  ⟨(some 33), (some (31, true)), .mv (.t 3)⟩,
  ⟨(some 34), (some (31, true)), .ixs (.t 32) (.t 33)⟩,
  ⟨(some 35), (some (31, true)), .bin .lss (.t 34) (.c (.v (.int .u8 48)))⟩,
  ⟨(some 36), (some (31, true)), .mv (.t 35)⟩,
  ⟨(some 37), (some (36, false)), .mv (.t 0)⟩,
  ⟨(some 38), (some (36, false)), .mv (.t 3)⟩,
  ⟨(some 39), (some (36, false)), .ixs (.t 37) (.t 38)⟩,
  ⟨(some 40), (some (36, false)), .bin .gtr (.t 39) (.c (.v (.int .u8 57)))⟩,
  ⟨(some 41), (some (31, true)), .pick (.t 36) (.c (.v (.bool true))) (.t 40)⟩,
  ⟨(some 42), none, .pick (.t 31) (.t 41) (.c (.v (.bool false)))⟩,
  ⟨(some 43), none, .mv (.t 42)⟩,
  ⟨(some 44), (some (43, true)), .mv (.t 0)⟩,
  ⟨(some 45), (some (43, true)), .mv (.t 3)⟩,
  ⟨(some 46), (some (43, true)), .ixs (.t 44) (.t 45)⟩,
  ⟨(some 47), (some (43, true)), .bin .neq (.t 46) (.c (.v (.int .u8 95)))⟩,
  ⟨(some 48), none, .pick (.t 43) (.t 47) (.c (.v (.bool false)))⟩]) (
  .cond (.t 48) (
  .seq (.reg [] [
  ⟨(some 2), none, .mv (.c (.v (.bool false)))⟩]) (
  .ret)) (
  .skip)))) (
  .reg [] [
  ⟨(some 24), none, .mv (.t 3)⟩,
  ⟨(some 25), none, .bin .add (.t 24) (.c (.v (.int .i64 1)))⟩,
  ⟨(some 3), none, .mv (.t 25)⟩]))
def k_ref09_Right_1 : List Nat := [0, 4, 5]
def c_ref09_Right_b1 : CC := .seq (.seq (.reg [] [
  ⟨(some 50), none, .mv (.t 5)⟩,
  ⟨(some 51), none, .mv (.t 4)⟩,
  ⟨(some 52), none, .len false (.t 51)⟩,
  ⟨(some 53), none, .bin .lss (.t 50) (.t 52)⟩]) (
  .cond (.t 53) (
  .skip) (
  .exit 2))) (
  .seq (.block 3 (
  .seq (.reg [] [
  ⟨(some 56), none, .mv (.t 4)⟩,
  ⟨(some 57), none, .mv (.t 5)⟩,
  ⟨(some 58), none, .ias 1 (.t 56) (.t 57)⟩,
  ⟨(some 59), none, .ld false 1 (.t 58)⟩,
  ⟨(some 60), none, .mv (.t 0)⟩,
  ⟨(some 61), none, .bin .eql (.t 59) (.t 60)⟩]) (
  .cond (.t 61) (
  .seq (.reg [] [
  ⟨(some 2), none, .mv (.c (.v (.bool false)))⟩]) (
  .ret)) (
  .skip)))) (
  .reg [] [
  ⟨(some 54), none, .mv (.t 5)⟩,
  ⟨(some 55), none, .bin .add (.t 54) (.c (.v (.int .i64 1)))⟩,
  ⟨(some 5), none, .mv (.t 55)⟩]))
def c_ref09_Right_s0 : CC := .seq (.reg [] [
  ⟨(some 2), none, .mv (.c (.v (.bool true)))⟩]) (
  .ret)
def c_ref09_Right_s1 : CC := .seq (.reg [] [
  ⟨(some 49), none, .call false i_ref09_words []⟩,
  ⟨(some 4), none, .mv (.t 49)⟩]) (
  .seq (.seq (.reg [] [
  ⟨(some 5), none, .mv (.c (.v (.int .i64 0)))⟩]) (
  .block 2 (
  .loop k_ref09_Right_1 c_ref09_Right_b1))) c_ref09_Right_s0)
def c_ref09_Right : CF := ⟨1, 62,
  .seq (.reg [] [
  ⟨(some 2), none, .mv (.c (.v (.bool false)))⟩]) (
  .seq (.seq (.reg [] [
  ⟨(some 6), none, .mv (.t 0)⟩,
  ⟨(some 7), none, .len true (.t 6)⟩,
  ⟨(some 8), none, .bin .lss (.t 7) (.c (.v (.int .i64 1)))⟩,
  ⟨(some 9), none, .mv (.t 8)⟩,
  ⟨(some 10), (some (9, false)), .mv (.t 0)⟩,
  ⟨(some 11), (some (9, false)), .len true (.t 10)⟩,
  ⟨(some 12), (some (9, false)), .bin .gtr (.t 11) (.c (.v (.int .i64 12)))⟩,
  ⟨(some 13), none, .pick (.t 9) (.c (.v (.bool true))) (.t 12)⟩,
  ⟨(some 14), none, .mv (.t 13)⟩,
  ⟨(some 15), (some (14, false)), .mv (.t 0)⟩,
  ⟨(some 16), (some (14, false)), .ixs (.t 15) (.c (.v (.int .i64 0)))⟩,
  ⟨(some 17), (some (14, false)), .call false i_ref09_Letter [(.t 16)]⟩,
  ⟨(some 18), (some (14, false)), .not (.t 17)⟩,
  ⟨(some 19), none, .pick (.t 14) (.c (.v (.bool true))) (.t 18)⟩]) (
  .cond (.t 19) (
  .seq (.reg [] [
  ⟨(some 2), none, .mv (.c (.v (.bool false)))⟩]) (
  .ret)) (
  .skip))) (
  .seq (.seq (.reg [] [
  ⟨(some 3), none, .mv (.c (.v (.int .i64 0)))⟩]) (
  .block 0 (
  .loop k_ref09_Right_0 c_ref09_Right_b0))) c_ref09_Right_s1)),
  [.t 2]⟩
def v_ref09_Right : List Nat := []
def R_ref09_Right_1 (call : Eng.Call) (G : Nat → AV) (n m1 : Nat) (o : Objs) (y0 y4 y5 : AV) : Out := roundsE k_ref09_Right_1 (denE 62 call G v_ref09_Right n c_ref09_Right_b1) m1 [y0, y4, y5] o (eBlock 2 (eSeq (denE 62 call G v_ref09_Right n c_ref09_Right_s0) (eEnd [.t 2])))
def R_ref09_Right_0 (call : Eng.Call) (G : Nat → AV) (n m0 : Nat) (o : Objs) (y0 y3 : AV) : Out := roundsE k_ref09_Right_0 (denE 62 call G v_ref09_Right n c_ref09_Right_b0) m0 [y0, y3] o (eBlock 0 (eSeq (denE 62 call G v_ref09_Right n c_ref09_Right_s1) (eEnd [.t 2])))
set_option maxRecDepth 100000 in
theorem R_ref09_Right_1_s (call : Eng.Call) (G : Nat → AV) (n m1 : Nat) (o : Objs) (y0 y4 y5 : AV) : R_ref09_Right_1 call G n (m1 + 1) o y0 y4 y5 =
 Xq (.len false (.c y4)) (fun x35 =>
 Xq (.bin .lss (.c y5) (.c x35)) (fun x36 =>
 Xc x36 (fun _ =>
 Xq (.ias 1 (.c y4) (.c y5)) (fun x37 =>
 Xx call o 59 (.ld false 1 (.c x37)) (fun x38 ox38 =>
 Xq (.bin .eql (.c x38) (.c y0)) (fun x39 =>
 Xc x39 (fun _ =>
 Xr ox38 [some (.v (.bool false))]) (fun _ =>
 Xq (.bin .add (.c y5) (.c (.v (.int .i64 1)))) (fun x40 =>
 R_ref09_Right_1 call G n m1 (maskO k_ref09_Right_1 ox38) (msk k_ref09_Right_1 y0) (msk k_ref09_Right_1 y4) (msk k_ref09_Right_1 x40)) ()) () ()) ()) ()) ()) (fun _ =>
 Xr o [some (.v (.bool true))]) () ()) ()) () := by kernel_rfl
set_option maxRecDepth 100000 in
theorem R_ref09_Right_0_s (call : Eng.Call) (G : Nat → AV) (n m0 : Nat) (o : Objs) (y0 y3 : AV) : R_ref09_Right_0 call G n (m0 + 1) o y0 y3 =
 Xq (.len true (.c y0)) (fun x12 =>
 Xq (.bin .lss (.c y3) (.c x12)) (fun x13 =>
 Xc x13 (fun _ =>
 Xq (.ixs (.c y0) (.c y3)) (fun x14 =>
 Xx call o 29 (.call false i_ref09_Letter [(.c x14)]) (fun x15 ox15 =>
 Xq (.not (.c x15)) (fun x16 =>
 Xgq x16 true (.mv (.c y0)) (fun x17 =>
 Xgq x16 true (.mv (.c y3)) (fun x18 =>
 Xgq x16 true (.ixs (.c x17) (.c x18)) (fun x19 =>
 Xgq x16 true (.bin .lss (.c x19) (.c (.v (.int .u8 48)))) (fun x20 =>
 Xgq x16 true (.mv (.c x20)) (fun x21 =>
 Xgq x21 false (.mv (.c y0)) (fun x22 =>
 Xgq x21 false (.mv (.c y3)) (fun x23 =>
 Xgq x21 false (.ixs (.c x22) (.c x23)) (fun x24 =>
 Xgq x21 false (.bin .gtr (.c x24) (.c (.v (.int .u8 57)))) (fun x25 =>
 Xgq x16 true (.pick (.c x21) (.c (.v (.bool true))) (.c x25)) (fun x26 =>
 Xq (.pick (.c x16) (.c x26) (.c (.v (.bool false)))) (fun x27 =>
 Xgq x27 true (.mv (.c y0)) (fun x28 =>
 Xgq x27 true (.mv (.c y3)) (fun x29 =>
 Xgq x27 true (.ixs (.c x28) (.c x29)) (fun x30 =>
 Xgq x27 true (.bin .neq (.c x30) (.c (.v (.int .u8 95)))) (fun x31 =>
 Xq (.pick (.c x27) (.c x31) (.c (.v (.bool false)))) (fun x32 =>
 Xc x32 (fun _ =>
 Xr ox15 [some (.v (.bool false))]) (fun _ =>
 Xq (.bin .add (.c y3) (.c (.v (.int .i64 1)))) (fun x33 =>
 R_ref09_Right_0 call G n m0 (maskO k_ref09_Right_0 ox15) (msk k_ref09_Right_0 y0) (msk k_ref09_Right_0 x33)) ()) () ()) ()) ()) ()) ()) ()) ()) ()) ()) ()) ()) ()) ()) ()) ()) ()) ()) ()) ()) ()) (fun _ =>
 Xx call o 49 (.call false i_ref09_words []) (fun x34 ox34 =>
 R_ref09_Right_1 call G n n (maskO k_ref09_Right_1 ox34) (msk k_ref09_Right_1 y0) (msk k_ref09_Right_1 x34) (msk k_ref09_Right_1 (.v (.int .i64 0)))) ()) () ()) ()) () := by kernel_rfl
set_option maxRecDepth 100000 in
theorem s_ref09_Right (call : Eng.Call) (G : Nat → AV) (n : Nat) (x0 : AV) : denFE call G v_ref09_Right n c_ref09_Right [x0] =
 Xq (.len true (.c x0)) (fun x1 =>
 Xq (.bin .lss (.c x1) (.c (.v (.int .i64 1)))) (fun x2 =>
 Xgq x2 false (.mv (.c x0)) (fun x3 =>
 Xgq x2 false (.len true (.c x3)) (fun x4 =>
 Xgq x2 false (.bin .gtr (.c x4) (.c (.v (.int .i64 12)))) (fun x5 =>
 Xq (.pick (.c x2) (.c (.v (.bool true))) (.c x5)) (fun x6 =>
 Xgq x6 false (.mv (.c x0)) (fun x7 =>
 Xgq x6 false (.ixs (.c x7) (.c (.v (.int .i64 0)))) (fun x8 =>
 Xxg call x6 false [] 17 (.call false i_ref09_Letter [(.c x8)]) (fun x9 ox9 =>
 Xgq x6 false (.not (.c x9)) (fun x10 =>
 Xq (.pick (.c x6) (.c (.v (.bool true))) (.c x10)) (fun x11 =>
 Xc x11 (fun _ =>
 Xr ox9 [some (.v (.bool false))]) (fun _ =>
 R_ref09_Right_0 call G n n (maskO k_ref09_Right_0 ox9) (msk k_ref09_Right_0 x0) (msk k_ref09_Right_0 (.v (.int .i64 0)))) () ()) ()) ()) ()) ()) ()) ()) ()) ()) ()) ()) () := by kernel_rfl
def c_ref14_Check : CF := ⟨1, 69,
  .seq (.reg [] [
  ⟨(some 1), none, .box 7 [0, 0, 0, 0, 0, 0, 0] (.t 0)⟩,
  ⟨(some 2), none, .mv (.c (.v (.int .i64 0)))⟩]) (
  .seq (.seq (.reg [] [
  ⟨(some 3), none, .fad (.t 1) 0⟩,
  ⟨(some 4), none, .ld false 1 (.t 3)⟩,
  ⟨(some 5), none, .call false i_ref09_Right [(.t 4)]⟩,
  ⟨(some 6), none, .not (.t 5)⟩,
  ⟨(some 7), none, .mv (.t 6)⟩,
  ⟨(some 8), (some (7, false)), .fad (.t 1) 6⟩,
  ⟨(some 9), (some (7, false)), .ld false 1 (.t 8)⟩,
  ⟨(some 10), (some (7, false)), .bin .neq (.t 9) (.c (.v (.string ⟨#[]⟩)))⟩,
  ⟨(some 11), (some (7, false)), .mv (.t 10)⟩,
  ⟨(some 12), (some (11, true)), .fad (.t 1) 6⟩,
  ⟨(some 13), (some (11, true)), .ld false 1 (.t 12)⟩,
  ⟨(some 14), (some (11, true)), .call false i_ref09_Right [(.t 13)]⟩,
  ⟨(some 15), (some (11, true)), .not (.t 14)⟩,
  ⟨(some 16), (some (7, false)), .pick (.t 11) (.t 15) (.c (.v (.bool false)))⟩,
  ⟨(some 17), none, .pick (.t 7) (.c (.v (.bool true))) (.t 16)⟩]) (
  .cond (.t 17) (
  .seq (.reg [] [
  ⟨(some 2), none, .mv (.c (.v (.int .i64 2)))⟩]) (
  .ret)) (
  .skip))) (
  .seq (.seq (.reg [] [
  ⟨(some 18), none, .fad (.t 1) 2⟩,
  ⟨(some 19), none, .ld false 1 (.t 18)⟩,
  ⟨(some 20), none, .bin .eql (.t 19) (.c (.v (.int .i64 14)))⟩,
  ⟨(some 21), none, .mv (.t 20)⟩,
  ⟨(some 22), (some (21, false)), .fad (.t 1) 2⟩,
  ⟨(some 23), (some (21, false)), .ld false 1 (.t 22)⟩,
  ⟨(some 24), (some (21, false)), .bin .eql (.t 23) (.c (.v (.int .i64 15)))⟩,
  ⟨(some 25), none, .pick (.t 21) (.c (.v (.bool true))) (.t 24)⟩]) (
  .cond (.t 25) (
  .seq (.reg [] [
  ⟨(some 26), none, .fad (.t 1) 3⟩,
  ⟨(some 27), none, .ld false 1 (.t 26)⟩,
  ⟨(some 28), none, .call false i_ref09_Right [(.t 27)]⟩,
  ⟨(some 29), none, .not (.t 28)⟩]) (
  .cond (.t 29) (
  .seq (.reg [] [
  ⟨(some 2), none, .mv (.c (.v (.int .i64 2)))⟩]) (
  .ret)) (
  .skip))) (
  .seq (.reg [] [
  ⟨(some 30), none, .fad (.t 1) 3⟩,
  ⟨(some 31), none, .ld false 1 (.t 30)⟩,
  ⟨(some 32), none, .bin .neq (.t 31) (.c (.v (.string ⟨#[]⟩)))⟩]) (
  .cond (.t 32) (
  .seq (.reg [] [
  ⟨(some 2), none, .mv (.c (.v (.int .i64 2)))⟩]) (
  .ret)) (
  .skip))))) (
  .seq (.seq (.reg [] [
  ⟨(some 33), none, .fad (.t 1) 1⟩,
  ⟨(some 34), none, .ld false 1 (.t 33)⟩,
  ⟨(some 35), none, .call false i_ref04_Field [(.t 34)]⟩,
  ⟨(some 36), none, .not (.t 35)⟩,
  ⟨(some 37), none, .mv (.t 36)⟩,
  ⟨(some 38), (some (37, false)), .fad (.t 1) 2⟩,
  ⟨(some 39), (some (37, false)), .ld false 1 (.t 38)⟩,
  ⟨(some 40), (some (37, false)), .bin .lss (.t 39) (.c (.v (.int .i64 1)))⟩,
  ⟨(some 41), none, .pick (.t 37) (.c (.v (.bool true))) (.t 40)⟩,
  ⟨(some 42), none, .mv (.t 41)⟩,
  ⟨(some 43), (some (42, false)), .fad (.t 1) 2⟩,
  ⟨(some 44), (some (42, false)), .ld false 1 (.t 43)⟩,
  ⟨(some 45), (some (42, false)), .bin .gtr (.t 44) (.c (.v (.int .i64 15)))⟩,
  ⟨(some 46), none, .pick (.t 42) (.c (.v (.bool true))) (.t 45)⟩,
  ⟨(some 47), none, .mv (.t 46)⟩,
  ⟨(some 48), (some (47, false)), .fad (.t 1) 4⟩,
  ⟨(some 49), (some (47, false)), .ld false 1 (.t 48)⟩,
  ⟨(some 50), (some (47, false)), .mv (.t 49)⟩,
  ⟨(some 51), (some (50, true)), .fad (.t 1) 6⟩,
  ⟨(some 52), (some (50, true)), .ld false 1 (.t 51)⟩,
  ⟨(some 53), (some (50, true)), .bin .neq (.t 52) (.c (.v (.string ⟨#[]⟩)))⟩,
  ⟨(some 54), (some (47, false)), .pick (.t 50) (.t 53) (.c (.v (.bool false)))⟩,
  ⟨(some 55), none, .pick (.t 47) (.c (.v (.bool true))) (.t 54)⟩]) (
  .cond (.t 55) (
  .seq (.reg [] [
  ⟨(some 2), none, .mv (.c (.v (.int .i64 1)))⟩]) (
  .ret)) (
  .skip))) (
  .seq (.seq (.reg [] [
  ⟨(some 56), none, .fad (.t 1) 5⟩,
  ⟨(some 57), none, .ld false 1 (.t 56)⟩,
  ⟨(some 58), none, .mv (.t 57)⟩,
  ⟨(some 59), (some (58, true)), .fad (.t 1) 4⟩,
  ⟨(some 60), (some (58, true)), .ld false 1 (.t 59)⟩,
  ⟨(some 61), (some (58, true)), .not (.t 60)⟩,
  ⟨(some 62), (some (58, true)), .mv (.t 61)⟩,
  ⟨(some 63), (some (62, false)), .fad (.t 1) 2⟩,
  ⟨(some 64), (some (62, false)), .ld false 1 (.t 63)⟩,
  ⟨(some 65), (some (62, false)), .call false i_ref11_Number [(.t 64)]⟩,
  ⟨(some 66), (some (62, false)), .not (.t 65)⟩,
  ⟨(some 67), (some (58, true)), .pick (.t 62) (.c (.v (.bool true))) (.t 66)⟩,
  ⟨(some 68), none, .pick (.t 58) (.t 67) (.c (.v (.bool false)))⟩]) (
  .cond (.t 68) (
  .seq (.reg [] [
  ⟨(some 2), none, .mv (.c (.v (.int .i64 1)))⟩]) (
  .ret)) (
  .skip))) (
  .seq (.reg [] [
  ⟨(some 2), none, .mv (.c (.v (.int .i64 0)))⟩]) (
  .ret)))))),
  [.t 2]⟩
def v_ref14_Check : List Nat := []
def J_ref14_Check_0 (call : Eng.Call) (G : Nat → AV) (n : Nat) (oJ : Objs) (z1z : AV) : Out :=
 Xq (.fad (.c z1z) 1) (fun x16 =>
 Xx call oJ 34 (.ld false 1 (.c x16)) (fun x17 ox17 =>
 Xx call ox17 35 (.call false i_ref04_Field [(.c x17)]) (fun x18 ox18 =>
 Xq (.not (.c x18)) (fun x19 =>
 Xgq x19 false (.fad (.c z1z) 2) (fun x20 =>
 Xxg call x19 false ox18 39 (.ld false 1 (.c x20)) (fun x21 ox21 =>
 Xgq x19 false (.bin .lss (.c x21) (.c (.v (.int .i64 1)))) (fun x22 =>
 Xq (.pick (.c x19) (.c (.v (.bool true))) (.c x22)) (fun x23 =>
 Xgq x23 false (.fad (.c z1z) 2) (fun x24 =>
 Xxg call x23 false ox21 44 (.ld false 1 (.c x24)) (fun x25 ox25 =>
 Xgq x23 false (.bin .gtr (.c x25) (.c (.v (.int .i64 15)))) (fun x26 =>
 Xq (.pick (.c x23) (.c (.v (.bool true))) (.c x26)) (fun x27 =>
 Xgq x27 false (.fad (.c z1z) 4) (fun x28 =>
 Xxg call x27 false ox25 49 (.ld false 1 (.c x28)) (fun x29 ox29 =>
 Xgq x27 false (.mv (.c x29)) (fun x30 =>
 Xgq x30 true (.fad (.c z1z) 6) (fun x31 =>
 Xxg call x30 true ox29 52 (.ld false 1 (.c x31)) (fun x32 ox32 =>
 Xgq x30 true (.bin .neq (.c x32) (.c (.v (.string ⟨#[]⟩)))) (fun x33 =>
 Xgq x27 false (.pick (.c x30) (.c x33) (.c (.v (.bool false)))) (fun x34 =>
 Xq (.pick (.c x27) (.c (.v (.bool true))) (.c x34)) (fun x35 =>
 Xc x35 (fun _ =>
 Xr ox32 [some (.v (.int .i64 1))]) (fun _ =>
 Xq (.fad (.c z1z) 5) (fun x36 =>
 Xx call ox32 57 (.ld false 1 (.c x36)) (fun x37 ox37 =>
 Xgq x37 true (.fad (.c z1z) 4) (fun x38 =>
 Xxg call x37 true ox37 60 (.ld false 1 (.c x38)) (fun x39 ox39 =>
 Xgq x37 true (.not (.c x39)) (fun x40 =>
 Xgq x37 true (.mv (.c x40)) (fun x41 =>
 Xgq x41 false (.fad (.c z1z) 2) (fun x42 =>
 Xxg call x41 false ox39 64 (.ld false 1 (.c x42)) (fun x43 ox43 =>
 Xxg call x41 false ox43 65 (.call false i_ref11_Number [(.c x43)]) (fun x44 ox44 =>
 Xgq x41 false (.not (.c x44)) (fun x45 =>
 Xgq x37 true (.pick (.c x41) (.c (.v (.bool true))) (.c x45)) (fun x46 =>
 Xq (.pick (.c x37) (.c x46) (.c (.v (.bool false)))) (fun x47 =>
 Xc x47 (fun _ =>
 Xr ox44 [some (.v (.int .i64 1))]) (fun _ =>
 Xr ox44 [some (.v (.int .i64 0))]) () ()) ()) ()) ()) ()) ()) ()) ()) ()) ()) ()) ()) ()) () ()) ()) ()) ()) ()) ()) ()) ()) ()) ()) ()) ()) ()) ()) ()) ()) ()) ()) ()) ()) ()
set_option maxRecDepth 100000 in
theorem s_ref14_Check (call : Eng.Call) (G : Nat → AV) (n : Nat) (x0 : AV) : denFE call G v_ref14_Check n c_ref14_Check [x0] =
 Xx call [] 1 (.box 7 [0, 0, 0, 0, 0, 0, 0] (.c x0)) (fun x1 ox1 =>
 Xq (.fad (.c x1) 0) (fun x2 =>
 Xx call ox1 4 (.ld false 1 (.c x2)) (fun x3 ox3 =>
 Xx call ox3 5 (.call false i_ref09_Right [(.c x3)]) (fun x4 ox4 =>
 Xq (.not (.c x4)) (fun x5 =>
 Xgq x5 false (.fad (.c x1) 6) (fun x6 =>
 Xxg call x5 false ox4 9 (.ld false 1 (.c x6)) (fun x7 ox7 =>
 Xgq x5 false (.bin .neq (.c x7) (.c (.v (.string ⟨#[]⟩)))) (fun x8 =>
 Xgq x5 false (.mv (.c x8)) (fun x9 =>
 Xgq x9 true (.fad (.c x1) 6) (fun x10 =>
 Xxg call x9 true ox7 13 (.ld false 1 (.c x10)) (fun x11 ox11 =>
 Xxg call x9 true ox11 14 (.call false i_ref09_Right [(.c x11)]) (fun x12 ox12 =>
 Xgq x9 true (.not (.c x12)) (fun x13 =>
 Xgq x5 false (.pick (.c x9) (.c x13) (.c (.v (.bool false)))) (fun x14 =>
 Xq (.pick (.c x5) (.c (.v (.bool true))) (.c x14)) (fun x15 =>
 Xc x15 (fun _ =>
 Xr ox12 [some (.v (.int .i64 2))]) (fun _ =>
 Xq (.fad (.c x1) 2) (fun x48 =>
 Xx call ox12 19 (.ld false 1 (.c x48)) (fun x49 ox49 =>
 Xq (.bin .eql (.c x49) (.c (.v (.int .i64 14)))) (fun x50 =>
 Xgq x50 false (.fad (.c x1) 2) (fun x51 =>
 Xxg call x50 false ox49 23 (.ld false 1 (.c x51)) (fun x52 ox52 =>
 Xgq x50 false (.bin .eql (.c x52) (.c (.v (.int .i64 15)))) (fun x53 =>
 Xq (.pick (.c x50) (.c (.v (.bool true))) (.c x53)) (fun x54 =>
 Xc x54 (fun _ =>
 Xq (.fad (.c x1) 3) (fun x55 =>
 Xx call ox52 27 (.ld false 1 (.c x55)) (fun x56 ox56 =>
 Xx call ox56 28 (.call false i_ref09_Right [(.c x56)]) (fun x57 ox57 =>
 Xq (.not (.c x57)) (fun x58 =>
 Xc x58 (fun _ =>
 Xr ox57 [some (.v (.int .i64 2))]) (fun _ =>
 J_ref14_Check_0 call G n ox57 x1) () ()) ()) ()) ()) ()) (fun _ =>
 Xq (.fad (.c x1) 3) (fun x59 =>
 Xx call ox52 31 (.ld false 1 (.c x59)) (fun x60 ox60 =>
 Xq (.bin .neq (.c x60) (.c (.v (.string ⟨#[]⟩)))) (fun x61 =>
 Xc x61 (fun _ =>
 Xr ox60 [some (.v (.int .i64 2))]) (fun _ =>
 J_ref14_Check_0 call G n ox60 x1) () ()) ()) ()) ()) () ()) ()) ()) ()) ()) ()) ()) ()) () ()) ()) ()) ()) ()) ()) ()) ()) ()) ()) ()) ()) ()) ()) ()) () := by kernel_rfl
def k_ref09_Once_0 : List Nat := [0, 3, 4]
def c_ref09_Once_b0 : CC := .seq (.seq (.reg [] [
  ⟨(some 11), none, .mv (.t 4)⟩,
  ⟨(some 12), none, .mv (.t 3)⟩,
  ⟨(some 13), none, .bin .lss (.t 11) (.t 12)⟩]) (
  .cond (.t 13) (
  .skip) (
  .exit 2))) (
  .seq (.block 3 (
  .seq (.reg [
  ⟨(some 16), none, .mv (.t 0)⟩,
  ⟨(some 17), none, .mv (.t 3)⟩,
  ⟨(some 18), none, .ias 1 (.t 16) (.t 17)⟩,
  ⟨(some 19), none, .ld false 1 (.t 18)⟩,
  ⟨(some 20), none, .mv (.t 0)⟩,
  ⟨(some 21), none, .mv (.t 4)⟩,
  ⟨(some 22), none, .ias 1 (.t 20) (.t 21)⟩,
  ⟨(some 23), none, .ld false 1 (.t 22)⟩] [
  ⟨(some 24), none, .bin .eql (.t 19) (.t 23)⟩]) (
  .cond (.t 24) (
  .seq (.reg [] [
  ⟨(some 2), none, .mv (.c (.v (.bool false)))⟩]) (
  .ret)) (
  .skip)))) (
  .reg [] [
  ⟨(some 14), none, .mv (.t 4)⟩,
  ⟨(some 15), none, .bin .add (.t 14) (.c (.v (.int .i64 1)))⟩,
  ⟨(some 4), none, .mv (.t 15)⟩]))
def c_ref09_Once_s0 : CC := .reg [] [
  ⟨(some 9), none, .mv (.t 3)⟩,
  ⟨(some 10), none, .bin .add (.t 9) (.c (.v (.int .i64 1)))⟩,
  ⟨(some 3), none, .mv (.t 10)⟩]
def k_ref09_Once_1 : List Nat := [0, 3]
def c_ref09_Once_b1 : CC := .seq (.seq (.reg [] [
  ⟨(some 5), none, .mv (.t 3)⟩,
  ⟨(some 6), none, .mv (.t 0)⟩,
  ⟨(some 7), none, .len false (.t 6)⟩,
  ⟨(some 8), none, .bin .lss (.t 5) (.t 7)⟩]) (
  .cond (.t 8) (
  .skip) (
  .exit 0))) (
  .seq (.block 1 (
  .seq (.reg [] [
  ⟨(some 4), none, .mv (.c (.v (.int .i64 0)))⟩]) (
  .block 2 (
  .loop k_ref09_Once_0 c_ref09_Once_b0)))) c_ref09_Once_s0)
def c_ref09_Once_s1 : CC := .seq (.reg [] [
  ⟨(some 2), none, .mv (.c (.v (.bool true)))⟩]) (
  .ret)
def c_ref09_Once : CF := ⟨1, 25,
  .seq (.reg [] [
  ⟨(some 2), none, .mv (.c (.v (.bool false)))⟩]) (
  .seq (.seq (.reg [] [
  ⟨(some 3), none, .mv (.c (.v (.int .i64 0)))⟩]) (
  .block 0 (
  .loop k_ref09_Once_1 c_ref09_Once_b1))) c_ref09_Once_s1),
  [.t 2]⟩
def v_ref09_Once : List Nat := []
def R_ref09_Once_0 (call : Eng.Call) (G : Nat → AV) (n m0 m1 : Nat) (o : Objs) (y0 y3 y4 : AV) : Out := roundsE k_ref09_Once_0 (denE 25 call G v_ref09_Once n c_ref09_Once_b0) m0 [y0, y3, y4] o (eBlock 2 (eBlock 1 (eSeq (denE 25 call G v_ref09_Once n c_ref09_Once_s0) (eLoop k_ref09_Once_1 (denE 25 call G v_ref09_Once n c_ref09_Once_b1) m1 (eBlock 0 (eSeq (denE 25 call G v_ref09_Once n c_ref09_Once_s1) (eEnd [.t 2])))))))
def R_ref09_Once_1 (call : Eng.Call) (G : Nat → AV) (n m1 : Nat) (o : Objs) (y0 y3 : AV) : Out := roundsE k_ref09_Once_1 (denE 25 call G v_ref09_Once n c_ref09_Once_b1) m1 [y0, y3] o (eBlock 0 (eSeq (denE 25 call G v_ref09_Once n c_ref09_Once_s1) (eEnd [.t 2])))
set_option maxRecDepth 100000 in
theorem R_ref09_Once_0_s (call : Eng.Call) (G : Nat → AV) (n m0 m1 : Nat) (o : Objs) (y0 y3 y4 : AV) : R_ref09_Once_0 call G n (m0 + 1) m1 o y0 y3 y4 =
 Xq (.bin .lss (.c y4) (.c y3)) (fun x3 =>
 Xc x3 (fun _ =>
 Xq (.ias 1 (.c y0) (.c y3)) (fun x4 =>
 Xp call o 19 (.ld false 1 (.c x4)) (fun x5 nx5 sx5 =>
 Xq (.ias 1 (.c y0) (.c y4)) (fun x6 =>
 Xp call o 23 (.ld false 1 (.c x6)) (fun x7 nx7 sx7 =>
 Xq (.bin .eql (.c x5) (.c x7)) (fun x8 =>
 Xc x8 (fun _ =>
 Xr (finO o (nx5 ++ nx7) (sx5 ++ sx7)) [some (.v (.bool false))]) (fun _ =>
 Xq (.bin .add (.c y4) (.c (.v (.int .i64 1)))) (fun x9 =>
 R_ref09_Once_0 call G n m0 m1 (maskO k_ref09_Once_0 (finO o (nx5 ++ nx7) (sx5 ++ sx7))) (msk k_ref09_Once_0 y0) (msk k_ref09_Once_0 y3) (msk k_ref09_Once_0 x9)) ()) () ()) ()) ()) ()) ()) ()) (fun _ =>
 Xq (.bin .add (.c y3) (.c (.v (.int .i64 1)))) (fun x10 =>
 R_ref09_Once_1 call G n m1 (maskO k_ref09_Once_1 o) (msk k_ref09_Once_1 y0) (msk k_ref09_Once_1 x10)) ()) () ()) () := by kernel_rfl
set_option maxRecDepth 100000 in
theorem R_ref09_Once_1_s (call : Eng.Call) (G : Nat → AV) (n m1 : Nat) (o : Objs) (y0 y3 : AV) : R_ref09_Once_1 call G n (m1 + 1) o y0 y3 =
 Xq (.len false (.c y0)) (fun x1 =>
 Xq (.bin .lss (.c y3) (.c x1)) (fun x2 =>
 Xc x2 (fun _ =>
 R_ref09_Once_0 call G n n m1 (maskO k_ref09_Once_0 o) (msk k_ref09_Once_0 y0) (msk k_ref09_Once_0 y3) (msk k_ref09_Once_0 (.v (.int .i64 0)))) (fun _ =>
 Xr o [some (.v (.bool true))]) () ()) ()) () := by kernel_rfl
set_option maxRecDepth 100000 in
theorem s_ref09_Once (call : Eng.Call) (G : Nat → AV) (n : Nat) (x0 : AV) : denFE call G v_ref09_Once n c_ref09_Once [x0] =
 R_ref09_Once_1 call G n n (maskO k_ref09_Once_1 []) (msk k_ref09_Once_1 x0) (msk k_ref09_Once_1 (.v (.int .i64 0))) := by kernel_rfl
def k_ref15_Rises_0 : List Nat := [0, 3]
def c_ref15_Rises_b0 : CC := .seq (.seq (.reg [] [
  ⟨(some 4), none, .mv (.t 3)⟩,
  ⟨(some 5), none, .mv (.t 0)⟩,
  ⟨(some 6), none, .len false (.t 5)⟩,
  ⟨(some 7), none, .bin .lss (.t 4) (.t 6)⟩]) (
  .cond (.t 7) (
  .skip) (
  .exit 0))) (
  .seq (.block 1 (
  .seq (.reg [
  ⟨(some 10), none, .mv (.t 0)⟩,
  ⟨(some 11), none, .mv (.t 3)⟩,
  ⟨(some 12), none, .bin .sub (.t 11) (.c (.v (.int .i64 1)))⟩,
  ⟨(some 13), none, .ias 1 (.t 10) (.t 12)⟩,
  ⟨(some 14), none, .ld false 1 (.t 13)⟩,
  ⟨(some 15), none, .mv (.t 0)⟩,
  ⟨(some 16), none, .mv (.t 3)⟩,
  ⟨(some 17), none, .ias 1 (.t 15) (.t 16)⟩,
  ⟨(some 18), none, .ld false 1 (.t 17)⟩] [
  ⟨(some 19), none, .bin .geq (.t 14) (.t 18)⟩]) (
  .cond (.t 19) (
  .seq (.reg [] [
  ⟨(some 2), none, .mv (.c (.v (.bool false)))⟩]) (
  .ret)) (
  .skip)))) (
  .reg [] [
  ⟨(some 8), none, .mv (.t 3)⟩,
  ⟨(some 9), none, .bin .add (.t 8) (.c (.v (.int .i64 1)))⟩,
  ⟨(some 3), none, .mv (.t 9)⟩]))
def c_ref15_Rises_s0 : CC := .seq (.reg [] [
  ⟨(some 2), none, .mv (.c (.v (.bool true)))⟩]) (
  .ret)
def c_ref15_Rises : CF := ⟨1, 20,
  .seq (.reg [] [
  ⟨(some 2), none, .mv (.c (.v (.bool false)))⟩]) (
  .seq (.seq (.reg [] [
  ⟨(some 3), none, .mv (.c (.v (.int .i64 1)))⟩]) (
  .block 0 (
  .loop k_ref15_Rises_0 c_ref15_Rises_b0))) c_ref15_Rises_s0),
  [.t 2]⟩
def v_ref15_Rises : List Nat := []
def R_ref15_Rises_0 (call : Eng.Call) (G : Nat → AV) (n m0 : Nat) (o : Objs) (y0 y3 : AV) : Out := roundsE k_ref15_Rises_0 (denE 20 call G v_ref15_Rises n c_ref15_Rises_b0) m0 [y0, y3] o (eBlock 0 (eSeq (denE 20 call G v_ref15_Rises n c_ref15_Rises_s0) (eEnd [.t 2])))
set_option maxRecDepth 100000 in
theorem R_ref15_Rises_0_s (call : Eng.Call) (G : Nat → AV) (n m0 : Nat) (o : Objs) (y0 y3 : AV) : R_ref15_Rises_0 call G n (m0 + 1) o y0 y3 =
 Xq (.len false (.c y0)) (fun x1 =>
 Xq (.bin .lss (.c y3) (.c x1)) (fun x2 =>
 Xc x2 (fun _ =>
 Xq (.bin .sub (.c y3) (.c (.v (.int .i64 1)))) (fun x3 =>
 Xq (.ias 1 (.c y0) (.c x3)) (fun x4 =>
 Xp call o 14 (.ld false 1 (.c x4)) (fun x5 nx5 sx5 =>
 Xq (.ias 1 (.c y0) (.c y3)) (fun x6 =>
 Xp call o 18 (.ld false 1 (.c x6)) (fun x7 nx7 sx7 =>
 Xq (.bin .geq (.c x5) (.c x7)) (fun x8 =>
 Xc x8 (fun _ =>
 Xr (finO o (nx5 ++ nx7) (sx5 ++ sx7)) [some (.v (.bool false))]) (fun _ =>
 Xq (.bin .add (.c y3) (.c (.v (.int .i64 1)))) (fun x9 =>
 R_ref15_Rises_0 call G n m0 (maskO k_ref15_Rises_0 (finO o (nx5 ++ nx7) (sx5 ++ sx7))) (msk k_ref15_Rises_0 y0) (msk k_ref15_Rises_0 x9)) ()) () ()) ()) ()) ()) ()) ()) ()) (fun _ =>
 Xr o [some (.v (.bool true))]) () ()) ()) () := by kernel_rfl
set_option maxRecDepth 100000 in
theorem s_ref15_Rises (call : Eng.Call) (G : Nat → AV) (n : Nat) (x0 : AV) : denFE call G v_ref15_Rises n c_ref15_Rises [x0] =
 R_ref15_Rises_0 call G n n (maskO k_ref15_Rises_0 []) (msk k_ref15_Rises_0 x0) (msk k_ref15_Rises_0 (.v (.int .i64 1))) := by kernel_rfl
def k_ref09_Rise_0 : List Nat := [0, 3]
def c_ref09_Rise_b0 : CC := .seq (.seq (.reg [] [
  ⟨(some 4), none, .mv (.t 3)⟩,
  ⟨(some 5), none, .mv (.t 0)⟩,
  ⟨(some 6), none, .len false (.t 5)⟩,
  ⟨(some 7), none, .bin .lss (.t 4) (.t 6)⟩]) (
  .cond (.t 7) (
  .skip) (
  .exit 0))) (
  .seq (.block 1 (
  .seq (.reg [
  ⟨(some 10), none, .mv (.t 0)⟩,
  ⟨(some 11), none, .mv (.t 3)⟩,
  ⟨(some 12), none, .bin .sub (.t 11) (.c (.v (.int .i64 1)))⟩,
  ⟨(some 13), none, .ias 1 (.t 10) (.t 12)⟩,
  ⟨(some 14), none, .ld false 1 (.t 13)⟩,
  ⟨(some 15), none, .mv (.t 0)⟩,
  ⟨(some 16), none, .mv (.t 3)⟩,
  ⟨(some 17), none, .ias 1 (.t 15) (.t 16)⟩,
  ⟨(some 18), none, .ld false 1 (.t 17)⟩] [
  ⟨(some 19), none, .bin .geq (.t 14) (.t 18)⟩]) (
  .cond (.t 19) (
  .seq (.reg [] [
  ⟨(some 2), none, .mv (.c (.v (.bool false)))⟩]) (
  .ret)) (
  .skip)))) (
  .reg [] [
  ⟨(some 8), none, .mv (.t 3)⟩,
  ⟨(some 9), none, .bin .add (.t 8) (.c (.v (.int .i64 1)))⟩,
  ⟨(some 3), none, .mv (.t 9)⟩]))
def c_ref09_Rise_s0 : CC := .seq (.reg [] [
  ⟨(some 2), none, .mv (.c (.v (.bool true)))⟩]) (
  .ret)
def c_ref09_Rise : CF := ⟨1, 20,
  .seq (.reg [] [
  ⟨(some 2), none, .mv (.c (.v (.bool false)))⟩]) (
  .seq (.seq (.reg [] [
  ⟨(some 3), none, .mv (.c (.v (.int .i64 1)))⟩]) (
  .block 0 (
  .loop k_ref09_Rise_0 c_ref09_Rise_b0))) c_ref09_Rise_s0),
  [.t 2]⟩
def v_ref09_Rise : List Nat := []
def R_ref09_Rise_0 (call : Eng.Call) (G : Nat → AV) (n m0 : Nat) (o : Objs) (y0 y3 : AV) : Out := roundsE k_ref09_Rise_0 (denE 20 call G v_ref09_Rise n c_ref09_Rise_b0) m0 [y0, y3] o (eBlock 0 (eSeq (denE 20 call G v_ref09_Rise n c_ref09_Rise_s0) (eEnd [.t 2])))
set_option maxRecDepth 100000 in
theorem R_ref09_Rise_0_s (call : Eng.Call) (G : Nat → AV) (n m0 : Nat) (o : Objs) (y0 y3 : AV) : R_ref09_Rise_0 call G n (m0 + 1) o y0 y3 =
 Xq (.len false (.c y0)) (fun x1 =>
 Xq (.bin .lss (.c y3) (.c x1)) (fun x2 =>
 Xc x2 (fun _ =>
 Xq (.bin .sub (.c y3) (.c (.v (.int .i64 1)))) (fun x3 =>
 Xq (.ias 1 (.c y0) (.c x3)) (fun x4 =>
 Xp call o 14 (.ld false 1 (.c x4)) (fun x5 nx5 sx5 =>
 Xq (.ias 1 (.c y0) (.c y3)) (fun x6 =>
 Xp call o 18 (.ld false 1 (.c x6)) (fun x7 nx7 sx7 =>
 Xq (.bin .geq (.c x5) (.c x7)) (fun x8 =>
 Xc x8 (fun _ =>
 Xr (finO o (nx5 ++ nx7) (sx5 ++ sx7)) [some (.v (.bool false))]) (fun _ =>
 Xq (.bin .add (.c y3) (.c (.v (.int .i64 1)))) (fun x9 =>
 R_ref09_Rise_0 call G n m0 (maskO k_ref09_Rise_0 (finO o (nx5 ++ nx7) (sx5 ++ sx7))) (msk k_ref09_Rise_0 y0) (msk k_ref09_Rise_0 x9)) ()) () ()) ()) ()) ()) ()) ()) ()) (fun _ =>
 Xr o [some (.v (.bool true))]) () ()) ()) () := by kernel_rfl
set_option maxRecDepth 100000 in
theorem s_ref09_Rise (call : Eng.Call) (G : Nat → AV) (n : Nat) (x0 : AV) : denFE call G v_ref09_Rise n c_ref09_Rise [x0] =
 R_ref09_Rise_0 call G n n (maskO k_ref09_Rise_0 []) (msk k_ref09_Rise_0 x0) (msk k_ref09_Rise_0 (.v (.int .i64 1))) := by kernel_rfl
def k_ref15_Nums_0 : List Nat := [1, 4, 3, 2, 5]
def c_ref15_Nums_b0 : CC := .seq (.seq (.reg [] [
  ⟨(some 6), none, .mv (.t 4)⟩,
  ⟨(some 7), none, .fad (.t 1) 1⟩,
  ⟨(some 8), none, .ld false 1 (.t 7)⟩,
  ⟨(some 9), none, .len false (.t 8)⟩,
  ⟨(some 10), none, .bin .lss (.t 6) (.t 9)⟩]) (
  .cond (.t 10) (
  .skip) (
  .exit 0))) (
  .seq (.block 1 (
  .reg [] [
  ⟨(some 13), none, .mv (.t 3)⟩,
  ⟨(some 14), none, .fad (.t 1) 1⟩,
  ⟨(some 15), none, .ld false 1 (.t 14)⟩,
  ⟨(some 16), none, .mv (.t 4)⟩,
  ⟨(some 17), none, .ias 7 (.t 15) (.t 16)⟩,
  ⟨(some 18), none, .fad (.t 17) 1⟩,
  ⟨(some 19), none, .ld false 1 (.t 18)⟩,
  ⟨(some 20), none, .bsl 1 1 [(.v (.int .i64 0))] [(0, (.t 19))]⟩,
  ⟨(some 21), none, .app false 1 8 (.t 13) (.t 20)⟩,
  ⟨(some 3), none, .mv (.t 21)⟩])) (
  .reg [] [
  ⟨(some 11), none, .mv (.t 4)⟩,
  ⟨(some 12), none, .bin .add (.t 11) (.c (.v (.int .i64 1)))⟩,
  ⟨(some 4), none, .mv (.t 12)⟩]))
def c_ref15_Nums_s0 : CC := .seq (.reg [] [
  ⟨(some 22), none, .mv (.t 3)⟩,
  ⟨(some 2), none, .mv (.t 22)⟩]) (
  .ret)
def c_ref15_Nums : CF := ⟨1, 23,
  .seq (.reg [] [
  ⟨(some 1), none, .box 3 [0, 7, 1] (.t 0)⟩,
  ⟨(some 2), none, .nil 1⟩]) (
  .seq (.reg [] [
  ⟨(some 5), none, .bsl 0 1 [] []⟩,
  ⟨(some 3), none, .mv (.t 5)⟩]) (
  .seq (.seq (.reg [] [
  ⟨(some 4), none, .mv (.c (.v (.int .i64 0)))⟩]) (
  .block 0 (
  .loop k_ref15_Nums_0 c_ref15_Nums_b0))) c_ref15_Nums_s0)),
  [.t 2]⟩
def v_ref15_Nums : List Nat := []
def R_ref15_Nums_0 (call : Eng.Call) (G : Nat → AV) (n m0 : Nat) (o : Objs) (y1 y4 y3 y2 y5 : AV) : Out := roundsE k_ref15_Nums_0 (denE 23 call G v_ref15_Nums n c_ref15_Nums_b0) m0 [y1, y4, y3, y2, y5] o (eBlock 0 (eSeq (denE 23 call G v_ref15_Nums n c_ref15_Nums_s0) (eEnd [.t 2])))
set_option maxRecDepth 100000 in
theorem R_ref15_Nums_0_s (call : Eng.Call) (G : Nat → AV) (n m0 : Nat) (o : Objs) (y1 y4 y3 y2 y5 : AV) : R_ref15_Nums_0 call G n (m0 + 1) o y1 y4 y3 y2 y5 =
 Xq (.fad (.c y1) 1) (fun x4 =>
 Xx call o 8 (.ld false 1 (.c x4)) (fun x5 ox5 =>
 Xq (.len false (.c x5)) (fun x6 =>
 Xq (.bin .lss (.c y4) (.c x6)) (fun x7 =>
 Xc x7 (fun _ =>
 Xq (.fad (.c y1) 1) (fun x8 =>
 Xx call ox5 15 (.ld false 1 (.c x8)) (fun x9 ox9 =>
 Xq (.ias 7 (.c x9) (.c y4)) (fun x10 =>
 Xq (.fad (.c x10) 1) (fun x11 =>
 Xx call ox9 19 (.ld false 1 (.c x11)) (fun x12 ox12 =>
 Xx call ox12 20 (.bsl 1 1 [(.v (.int .i64 0))] [(0, (.c x12))]) (fun x13 ox13 =>
 Xa ox13 21 false 1 8 y3 x13 (fun x14 ox14 =>
 Xq (.bin .add (.c y4) (.c (.v (.int .i64 1)))) (fun x15 =>
 R_ref15_Nums_0 call G n m0 (maskO k_ref15_Nums_0 ox14) (msk k_ref15_Nums_0 y1) (msk k_ref15_Nums_0 x15) (msk k_ref15_Nums_0 x14) (msk k_ref15_Nums_0 y2) (msk k_ref15_Nums_0 y5)) ()) ()) ()) ()) ()) ()) ()) ()) (fun _ =>
 Xr ox5 [some y3]) () ()) ()) ()) ()) () := by kernel_rfl
set_option maxRecDepth 100000 in
theorem s_ref15_Nums (call : Eng.Call) (G : Nat → AV) (n : Nat) (x0 : AV) : denFE call G v_ref15_Nums n c_ref15_Nums [x0] =
 Xx call [] 1 (.box 3 [0, 7, 1] (.c x0)) (fun x1 ox1 =>
 Xx call ox1 2 (.nil 1) (fun x2 ox2 =>
 Xx call ox2 5 (.bsl 0 1 [] []) (fun x3 ox3 =>
 R_ref15_Nums_0 call G n n (maskO k_ref15_Nums_0 ox3) (msk k_ref15_Nums_0 x1) (msk k_ref15_Nums_0 (.v (.int .i64 0))) (msk k_ref15_Nums_0 x3) (msk k_ref15_Nums_0 x2) (msk k_ref15_Nums_0 x3)) ()) ()) () := by kernel_rfl
def k_ref15_Has_0 : List Nat := [1, 0, 5]
def c_ref15_Has_b0 : CC := .seq (.seq (.reg [] [
  ⟨(some 6), none, .mv (.t 5)⟩,
  ⟨(some 7), none, .mv (.t 0)⟩,
  ⟨(some 8), none, .len false (.t 7)⟩,
  ⟨(some 9), none, .bin .lss (.t 6) (.t 8)⟩]) (
  .cond (.t 9) (
  .skip) (
  .exit 0))) (
  .seq (.block 1 (
  .seq (.reg [] [
  ⟨(some 12), none, .mv (.t 0)⟩,
  ⟨(some 13), none, .mv (.t 5)⟩,
  ⟨(some 14), none, .ias 1 (.t 12) (.t 13)⟩,
  ⟨(some 15), none, .ld false 1 (.t 14)⟩,
  ⟨(some 16), none, .mv (.t 1)⟩,
  ⟨(some 17), none, .bin .eql (.t 15) (.t 16)⟩]) (
  .cond (.t 17) (
  .seq (.reg [] [
  ⟨(some 4), none, .mv (.c (.v (.bool true)))⟩]) (
  .ret)) (
  .skip)))) (
  .reg [] [
  ⟨(some 10), none, .mv (.t 5)⟩,
  ⟨(some 11), none, .bin .add (.t 10) (.c (.v (.int .i64 1)))⟩,
  ⟨(some 5), none, .mv (.t 11)⟩]))
def c_ref15_Has_s0 : CC := .seq (.reg [] [
  ⟨(some 4), none, .mv (.c (.v (.bool false)))⟩]) (
  .ret)
def c_ref15_Has : CF := ⟨2, 18,
  .seq (.reg [] [
  ⟨(some 4), none, .mv (.c (.v (.bool false)))⟩]) (
  .seq (.seq (.reg [] [
  ⟨(some 5), none, .mv (.c (.v (.int .i64 0)))⟩]) (
  .block 0 (
  .loop k_ref15_Has_0 c_ref15_Has_b0))) c_ref15_Has_s0),
  [.t 4]⟩
def v_ref15_Has : List Nat := []
def R_ref15_Has_0 (call : Eng.Call) (G : Nat → AV) (n m0 : Nat) (o : Objs) (y1 y0 y5 : AV) : Out := roundsE k_ref15_Has_0 (denE 18 call G v_ref15_Has n c_ref15_Has_b0) m0 [y1, y0, y5] o (eBlock 0 (eSeq (denE 18 call G v_ref15_Has n c_ref15_Has_s0) (eEnd [.t 4])))
set_option maxRecDepth 100000 in
theorem R_ref15_Has_0_s (call : Eng.Call) (G : Nat → AV) (n m0 : Nat) (o : Objs) (y1 y0 y5 : AV) : R_ref15_Has_0 call G n (m0 + 1) o y1 y0 y5 =
 Xq (.len false (.c y0)) (fun x2 =>
 Xq (.bin .lss (.c y5) (.c x2)) (fun x3 =>
 Xc x3 (fun _ =>
 Xq (.ias 1 (.c y0) (.c y5)) (fun x4 =>
 Xx call o 15 (.ld false 1 (.c x4)) (fun x5 ox5 =>
 Xq (.bin .eql (.c x5) (.c y1)) (fun x6 =>
 Xc x6 (fun _ =>
 Xr ox5 [some (.v (.bool true))]) (fun _ =>
 Xq (.bin .add (.c y5) (.c (.v (.int .i64 1)))) (fun x7 =>
 R_ref15_Has_0 call G n m0 (maskO k_ref15_Has_0 ox5) (msk k_ref15_Has_0 y1) (msk k_ref15_Has_0 y0) (msk k_ref15_Has_0 x7)) ()) () ()) ()) ()) ()) (fun _ =>
 Xr o [some (.v (.bool false))]) () ()) ()) () := by kernel_rfl
set_option maxRecDepth 100000 in
theorem s_ref15_Has (call : Eng.Call) (G : Nat → AV) (n : Nat) (x0 x1 : AV) : denFE call G v_ref15_Has n c_ref15_Has [x0, x1] =
 R_ref15_Has_0 call G n n (maskO k_ref15_Has_0 []) (msk k_ref15_Has_0 x1) (msk k_ref15_Has_0 x0) (msk k_ref15_Has_0 (.v (.int .i64 0))) := by kernel_rfl
def k_slices_IndexFunc_Lapi_Message_api_Message__0 : List Nat := [0, 1, 7, 8]
def c_slices_IndexFunc_Lapi_Message_api_Message__b0 : CC := .seq (.reg [] [
  ⟨(some 9), none, .bin .lss (.t 8) (.t 7)⟩]) (
  .seq (.cond (.t 9) (
  .skip) (
  .exit 0)) (
  .seq (.block 1 (
  .seq (.reg [] [
  ⟨(some 10), none, .mv (.t 8)⟩,
  ⟨(some 5), none, .mv (.t 10)⟩]) (
  .seq (.reg [] [
  ⟨(some 11), none, .mv (.t 1)⟩,
  ⟨(some 12), none, .mv (.t 0)⟩,
  ⟨(some 13), none, .mv (.t 5)⟩,
  ⟨(some 14), none, .ias 3 (.t 12) (.t 13)⟩,
  ⟨(some 15), none, .ld true 3 (.t 14)⟩,
  ⟨(some 16), none, .cal false (.t 11) [(.t 15)]⟩]) (
  .cond (.t 16) (
  .seq (.reg [] [
  ⟨(some 17), none, .mv (.t 5)⟩,
  ⟨(some 4), none, .mv (.t 17)⟩]) (
  .ret)) (
  .skip))))) (
  .reg [] [
  ⟨(some 18), none, .bin .add (.t 8) (.c (.v (.int .i64 1)))⟩,
  ⟨(some 8), none, .mv (.t 18)⟩])))
def c_slices_IndexFunc_Lapi_Message_api_Message__s0 : CC := .seq (.reg [] [
  ⟨(some 4), none, .mv (.c (.v (.int .i64 (-1))))⟩]) (
  .ret)
def c_slices_IndexFunc_Lapi_Message_api_Message_ : CF := ⟨2, 19,
  .seq (.reg [] [
  ⟨(some 4), none, .mv (.c (.v (.int .i64 0)))⟩]) (
  .seq (.seq (.reg [] [
  ⟨(some 6), none, .mv (.t 0)⟩,
  ⟨(some 7), none, .len false (.t 6)⟩,
  ⟨(some 8), none, .mv (.c (.v (.int .i64 0)))⟩]) (
  .block 0 (
  .loop k_slices_IndexFunc_Lapi_Message_api_Message__0 c_slices_IndexFunc_Lapi_Message_api_Message__b0))) c_slices_IndexFunc_Lapi_Message_api_Message__s0),
  [.t 4]⟩
def v_slices_IndexFunc_Lapi_Message_api_Message_ : List Nat := []
def R_slices_IndexFunc_Lapi_Message_api_Message__0 (call : Eng.Call) (G : Nat → AV) (n m0 : Nat) (o : Objs) (y0 y1 y7 y8 : AV) : Out := roundsE k_slices_IndexFunc_Lapi_Message_api_Message__0 (denE 19 call G v_slices_IndexFunc_Lapi_Message_api_Message_ n c_slices_IndexFunc_Lapi_Message_api_Message__b0) m0 [y0, y1, y7, y8] o (eBlock 0 (eSeq (denE 19 call G v_slices_IndexFunc_Lapi_Message_api_Message_ n c_slices_IndexFunc_Lapi_Message_api_Message__s0) (eEnd [.t 4])))
set_option maxRecDepth 100000 in
theorem R_slices_IndexFunc_Lapi_Message_api_Message__0_s (call : Eng.Call) (G : Nat → AV) (n m0 : Nat) (o : Objs) (y0 y1 y7 y8 : AV) : R_slices_IndexFunc_Lapi_Message_api_Message__0 call G n (m0 + 1) o y0 y1 y7 y8 =
 Xq (.bin .lss (.c y8) (.c y7)) (fun x3 =>
 Xc x3 (fun _ =>
 Xq (.ias 3 (.c y0) (.c y8)) (fun x4 =>
 Xx call o 15 (.ld true 3 (.c x4)) (fun x5 ox5 =>
 Xx call ox5 16 (.cal false (.c y1) [(.c x5)]) (fun x6 ox6 =>
 Xc x6 (fun _ =>
 Xr ox6 [some y8]) (fun _ =>
 Xq (.bin .add (.c y8) (.c (.v (.int .i64 1)))) (fun x7 =>
 R_slices_IndexFunc_Lapi_Message_api_Message__0 call G n m0 (maskO k_slices_IndexFunc_Lapi_Message_api_Message__0 ox6) (msk k_slices_IndexFunc_Lapi_Message_api_Message__0 y0) (msk k_slices_IndexFunc_Lapi_Message_api_Message__0 y1) (msk k_slices_IndexFunc_Lapi_Message_api_Message__0 y7) (msk k_slices_IndexFunc_Lapi_Message_api_Message__0 x7)) ()) () ()) ()) ()) ()) (fun _ =>
 Xr o [some (.v (.int .i64 (-1)))]) () ()) () := by kernel_rfl
set_option maxRecDepth 100000 in
theorem s_slices_IndexFunc_Lapi_Message_api_Message_ (call : Eng.Call) (G : Nat → AV) (n : Nat) (x0 x1 : AV) : denFE call G v_slices_IndexFunc_Lapi_Message_api_Message_ n c_slices_IndexFunc_Lapi_Message_api_Message_ [x0, x1] =
 Xq (.len false (.c x0)) (fun x2 =>
 R_slices_IndexFunc_Lapi_Message_api_Message__0 call G n n (maskO k_slices_IndexFunc_Lapi_Message_api_Message__0 []) (msk k_slices_IndexFunc_Lapi_Message_api_Message__0 x0) (msk k_slices_IndexFunc_Lapi_Message_api_Message__0 x1) (msk k_slices_IndexFunc_Lapi_Message_api_Message__0 x2) (msk k_slices_IndexFunc_Lapi_Message_api_Message__0 (.v (.int .i64 0)))) () := by kernel_rfl
def c_slices_ContainsFunc_Lapi_Enum_api_Enum_ : CF := ⟨2, 9,
  .seq (.reg [] [
  ⟨(some 4), none, .mv (.c (.v (.bool false)))⟩]) (
  .seq (.reg [] [
  ⟨(some 5), none, .mv (.t 0)⟩,
  ⟨(some 6), none, .mv (.t 1)⟩,
  ⟨(some 7), none, .call false i_slices_IndexFunc_Lapi_Enum_api_Enum_ [(.t 5), (.t 6)]⟩,
  ⟨(some 8), none, .bin .geq (.t 7) (.c (.v (.int .i64 0)))⟩,
  ⟨(some 4), none, .mv (.t 8)⟩]) (
  .ret)),
  [.t 4]⟩
def v_slices_ContainsFunc_Lapi_Enum_api_Enum_ : List Nat := []
set_option maxRecDepth 100000 in
theorem s_slices_ContainsFunc_Lapi_Enum_api_Enum_ (call : Eng.Call) (G : Nat → AV) (n : Nat) (x0 x1 : AV) : denFE call G v_slices_ContainsFunc_Lapi_Enum_api_Enum_ n c_slices_ContainsFunc_Lapi_Enum_api_Enum_ [x0, x1] =
 Xx call [] 7 (.call false i_slices_IndexFunc_Lapi_Enum_api_Enum_ [(.c x0), (.c x1)]) (fun x2 ox2 =>
 Xq (.bin .geq (.c x2) (.c (.v (.int .i64 0)))) (fun x3 =>
 Xr ox2 [some x3]) ()) () := by kernel_rfl
def c_slices_ContainsFunc_Lapi_Message_api_Message_ : CF := ⟨2, 9,
  .seq (.reg [] [
  ⟨(some 4), none, .mv (.c (.v (.bool false)))⟩]) (
  .seq (.reg [] [
  ⟨(some 5), none, .mv (.t 0)⟩,
  ⟨(some 6), none, .mv (.t 1)⟩,
  ⟨(some 7), none, .call false i_slices_IndexFunc_Lapi_Message_api_Message_ [(.t 5), (.t 6)]⟩,
  ⟨(some 8), none, .bin .geq (.t 7) (.c (.v (.int .i64 0)))⟩,
  ⟨(some 4), none, .mv (.t 8)⟩]) (
  .ret)),
  [.t 4]⟩
def v_slices_ContainsFunc_Lapi_Message_api_Message_ : List Nat := []
set_option maxRecDepth 100000 in
theorem s_slices_ContainsFunc_Lapi_Message_api_Message_ (call : Eng.Call) (G : Nat → AV) (n : Nat) (x0 x1 : AV) : denFE call G v_slices_ContainsFunc_Lapi_Message_api_Message_ n c_slices_ContainsFunc_Lapi_Message_api_Message_ [x0, x1] =
 Xx call [] 7 (.call false i_slices_IndexFunc_Lapi_Message_api_Message_ [(.c x0), (.c x1)]) (fun x2 ox2 =>
 Xq (.bin .geq (.c x2) (.c (.v (.int .i64 0)))) (fun x3 =>
 Xr ox2 [some x3]) ()) () := by kernel_rfl
def c_ident_word : CF := ⟨1, 44,
  .seq (.reg [] [
  ⟨(some 2), none, .mv (.c (.v (.bool false)))⟩]) (
  .seq (.seq (.reg [] [
  ⟨(some 3), none, .mv (.t 0)⟩]) (
  .block 0 (
  .seq (.seq (.reg [] [
  ⟨(some 5), none, .bin .eql (.t 3) (.c (.v (.string ⟨#[101, 110, 117, 109]⟩)))⟩,
  ⟨(some 4), none, .mv (.t 5)⟩]) (
  .cond (.t 4) (
  .skip) (
  .seq (.reg [] [
  ⟨(some 6), none, .bin .eql (.t 3) (.c (.v (.string ⟨#[109, 101, 115, 115, 97, 103, 101]⟩)))⟩,
  ⟨(some 4), none, .mv (.t 6)⟩]) (
  .cond (.t 4) (
  .skip) (
  .seq (.reg [] [
  ⟨(some 7), none, .bin .eql (.t 3) (.c (.v (.string ⟨#[111, 110, 101, 111, 102]⟩)))⟩,
  ⟨(some 4), none, .mv (.t 7)⟩]) (
  .cond (.t 4) (
  .skip) (
  .seq (.reg [] [
  ⟨(some 8), none, .bin .eql (.t 3) (.c (.v (.string ⟨#[114, 101, 112, 101, 97, 116, 101, 100]⟩)))⟩,
  ⟨(some 4), none, .mv (.t 8)⟩]) (
  .cond (.t 4) (
  .skip) (
  .seq (.reg [] [
  ⟨(some 9), none, .bin .eql (.t 3) (.c (.v (.string ⟨#[114, 101, 115, 101, 114, 118, 101, 100]⟩)))⟩,
  ⟨(some 4), none, .mv (.t 9)⟩]) (
  .cond (.t 4) (
  .skip) (
  .reg [] [
  ⟨(some 10), none, .bin .eql (.t 3) (.c (.v (.string ⟨#[108, 111, 111, 115, 101]⟩)))⟩,
  ⟨(some 4), none, .mv (.t 10)⟩]))))))))))) (
  .cond (.t 4) (
  .skip) (
  .seq (.seq (.reg [] [
  ⟨(some 12), none, .bin .eql (.t 3) (.c (.v (.string ⟨#[105, 110, 116, 51, 50]⟩)))⟩,
  ⟨(some 11), none, .mv (.t 12)⟩]) (
  .cond (.t 11) (
  .skip) (
  .seq (.reg [] [
  ⟨(some 13), none, .bin .eql (.t 3) (.c (.v (.string ⟨#[105, 110, 116, 54, 52]⟩)))⟩,
  ⟨(some 11), none, .mv (.t 13)⟩]) (
  .cond (.t 11) (
  .skip) (
  .seq (.reg [] [
  ⟨(some 14), none, .bin .eql (.t 3) (.c (.v (.string ⟨#[117, 105, 110, 116, 51, 50]⟩)))⟩,
  ⟨(some 11), none, .mv (.t 14)⟩]) (
  .cond (.t 11) (
  .skip) (
  .seq (.reg [] [
  ⟨(some 15), none, .bin .eql (.t 3) (.c (.v (.string ⟨#[117, 105, 110, 116, 54, 52]⟩)))⟩,
  ⟨(some 11), none, .mv (.t 15)⟩]) (
  .cond (.t 11) (
  .skip) (
  .seq (.reg [] [
  ⟨(some 16), none, .bin .eql (.t 3) (.c (.v (.string ⟨#[115, 105, 110, 116, 51, 50]⟩)))⟩,
  ⟨(some 11), none, .mv (.t 16)⟩]) (
  .cond (.t 11) (
  .skip) (
  .seq (.reg [] [
  ⟨(some 17), none, .bin .eql (.t 3) (.c (.v (.string ⟨#[115, 105, 110, 116, 54, 52]⟩)))⟩,
  ⟨(some 11), none, .mv (.t 17)⟩]) (
  .cond (.t 11) (
  .skip) (
  .reg [] [
  ⟨(some 18), none, .bin .eql (.t 3) (.c (.v (.string ⟨#[98, 111, 111, 108]⟩)))⟩,
  ⟨(some 11), none, .mv (.t 18)⟩]))))))))))))) (
  .cond (.t 11) (
  .skip) (
  .seq (.seq (.reg [] [
  ⟨(some 20), none, .bin .eql (.t 3) (.c (.v (.string ⟨#[102, 105, 120, 101, 100, 51, 50]⟩)))⟩,
  ⟨(some 19), none, .mv (.t 20)⟩]) (
  .cond (.t 19) (
  .skip) (
  .seq (.reg [] [
  ⟨(some 21), none, .bin .eql (.t 3) (.c (.v (.string ⟨#[102, 105, 120, 101, 100, 54, 52]⟩)))⟩,
  ⟨(some 19), none, .mv (.t 21)⟩]) (
  .cond (.t 19) (
  .skip) (
  .seq (.reg [] [
  ⟨(some 22), none, .bin .eql (.t 3) (.c (.v (.string ⟨#[115, 102, 105, 120, 101, 100, 51, 50]⟩)))⟩,
  ⟨(some 19), none, .mv (.t 22)⟩]) (
  .cond (.t 19) (
  .skip) (
  .seq (.reg [] [
  ⟨(some 23), none, .bin .eql (.t 3) (.c (.v (.string ⟨#[115, 102, 105, 120, 101, 100, 54, 52]⟩)))⟩,
  ⟨(some 19), none, .mv (.t 23)⟩]) (
  .cond (.t 19) (
  .skip) (
  .seq (.reg [] [
  ⟨(some 24), none, .bin .eql (.t 3) (.c (.v (.string ⟨#[115, 116, 114, 105, 110, 103]⟩)))⟩,
  ⟨(some 19), none, .mv (.t 24)⟩]) (
  .cond (.t 19) (
  .skip) (
  .reg [] [
  ⟨(some 25), none, .bin .eql (.t 3) (.c (.v (.string ⟨#[98, 121, 116, 101, 115]⟩)))⟩,
  ⟨(some 19), none, .mv (.t 25)⟩]))))))))))) (
  .cond (.t 19) (
  .skip) (
  .seq (.seq (.reg [] [
  ⟨(some 27), none, .bin .eql (.t 3) (.c (.v (.string ⟨#[114, 101, 110, 97, 109, 101]⟩)))⟩,
  ⟨(some 26), none, .mv (.t 27)⟩]) (
  .cond (.t 26) (
  .skip) (
  .seq (.reg [] [
  ⟨(some 28), none, .bin .eql (.t 3) (.c (.v (.string ⟨#[114, 101, 110, 117, 109, 98, 101, 114]⟩)))⟩,
  ⟨(some 26), none, .mv (.t 28)⟩]) (
  .cond (.t 26) (
  .skip) (
  .seq (.reg [] [
  ⟨(some 29), none, .bin .eql (.t 3) (.c (.v (.string ⟨#[114, 101, 116, 121, 112, 101]⟩)))⟩,
  ⟨(some 26), none, .mv (.t 29)⟩]) (
  .cond (.t 26) (
  .skip) (
  .seq (.reg [] [
  ⟨(some 30), none, .bin .eql (.t 3) (.c (.v (.string ⟨#[115, 112, 108, 105, 116]⟩)))⟩,
  ⟨(some 26), none, .mv (.t 30)⟩]) (
  .cond (.t 26) (
  .skip) (
  .seq (.reg [] [
  ⟨(some 31), none, .bin .eql (.t 3) (.c (.v (.string ⟨#[106, 111, 105, 110]⟩)))⟩,
  ⟨(some 26), none, .mv (.t 31)⟩]) (
  .cond (.t 26) (
  .skip) (
  .seq (.reg [] [
  ⟨(some 32), none, .bin .eql (.t 3) (.c (.v (.string ⟨#[119, 114, 97, 112]⟩)))⟩,
  ⟨(some 26), none, .mv (.t 32)⟩]) (
  .cond (.t 26) (
  .skip) (
  .seq (.reg [] [
  ⟨(some 33), none, .bin .eql (.t 3) (.c (.v (.string ⟨#[117, 110, 119, 114, 97, 112]⟩)))⟩,
  ⟨(some 26), none, .mv (.t 33)⟩]) (
  .cond (.t 26) (
  .skip) (
  .seq (.reg [] [
  ⟨(some 34), none, .bin .eql (.t 3) (.c (.v (.string ⟨#[97, 100, 100]⟩)))⟩,
  ⟨(some 26), none, .mv (.t 34)⟩]) (
  .cond (.t 26) (
  .skip) (
  .reg [] [
  ⟨(some 35), none, .bin .eql (.t 3) (.c (.v (.string ⟨#[100, 114, 111, 112]⟩)))⟩,
  ⟨(some 26), none, .mv (.t 35)⟩]))))))))))))))))) (
  .cond (.t 26) (
  .skip) (
  .seq (.seq (.reg [] [
  ⟨(some 37), none, .bin .eql (.t 3) (.c (.v (.string ⟨#[116, 111]⟩)))⟩,
  ⟨(some 36), none, .mv (.t 37)⟩]) (
  .cond (.t 36) (
  .skip) (
  .seq (.reg [] [
  ⟨(some 38), none, .bin .eql (.t 3) (.c (.v (.string ⟨#[105, 110, 116, 111]⟩)))⟩,
  ⟨(some 36), none, .mv (.t 38)⟩]) (
  .cond (.t 36) (
  .skip) (
  .seq (.reg [] [
  ⟨(some 39), none, .bin .eql (.t 3) (.c (.v (.string ⟨#[97, 115]⟩)))⟩,
  ⟨(some 36), none, .mv (.t 39)⟩]) (
  .cond (.t 36) (
  .skip) (
  .seq (.reg [] [
  ⟨(some 40), none, .bin .eql (.t 3) (.c (.v (.string ⟨#[111, 102]⟩)))⟩,
  ⟨(some 36), none, .mv (.t 40)⟩]) (
  .cond (.t 36) (
  .skip) (
  .seq (.reg [] [
  ⟨(some 41), none, .bin .eql (.t 3) (.c (.v (.string ⟨#[100, 101, 102, 97, 117, 108, 116]⟩)))⟩,
  ⟨(some 36), none, .mv (.t 41)⟩]) (
  .cond (.t 36) (
  .skip) (
  .seq (.reg [] [
  ⟨(some 42), none, .bin .eql (.t 3) (.c (.v (.string ⟨#[116, 114, 117, 101]⟩)))⟩,
  ⟨(some 36), none, .mv (.t 42)⟩]) (
  .cond (.t 36) (
  .skip) (
  .reg [] [
  ⟨(some 43), none, .bin .eql (.t 3) (.c (.v (.string ⟨#[102, 97, 108, 115, 101]⟩)))⟩,
  ⟨(some 36), none, .mv (.t 43)⟩]))))))))))))) (
  .cond (.t 36) (
  .skip) (
  .seq (.reg [] [
  ⟨(some 2), none, .mv (.c (.v (.bool false)))⟩]) (
  .ret)))))))))))))) (
  .seq (.reg [] [
  ⟨(some 2), none, .mv (.c (.v (.bool true)))⟩]) (
  .ret))),
  [.t 2]⟩
def v_ident_word : List Nat := []
def J_ident_word_0 (call : Eng.Call) (G : Nat → AV) (n : Nat) (oJ : Objs) (z3z z26z : AV) : Out :=
 Xc z26z (fun _ =>
 Xr oJ [some (.v (.bool true))]) (fun _ =>
 Xq (.bin .eql (.c z3z) (.c (.v (.string ⟨#[116, 111]⟩)))) (fun x1 =>
 Xc x1 (fun _ =>
 Xc x1 (fun _ =>
 Xr oJ [some (.v (.bool true))]) (fun _ =>
 Xr oJ [some (.v (.bool false))]) () ()) (fun _ =>
 Xq (.bin .eql (.c z3z) (.c (.v (.string ⟨#[105, 110, 116, 111]⟩)))) (fun x2 =>
 Xc x2 (fun _ =>
 Xc x2 (fun _ =>
 Xr oJ [some (.v (.bool true))]) (fun _ =>
 Xr oJ [some (.v (.bool false))]) () ()) (fun _ =>
 Xq (.bin .eql (.c z3z) (.c (.v (.string ⟨#[97, 115]⟩)))) (fun x3 =>
 Xc x3 (fun _ =>
 Xc x3 (fun _ =>
 Xr oJ [some (.v (.bool true))]) (fun _ =>
 Xr oJ [some (.v (.bool false))]) () ()) (fun _ =>
 Xq (.bin .eql (.c z3z) (.c (.v (.string ⟨#[111, 102]⟩)))) (fun x4 =>
 Xc x4 (fun _ =>
 Xc x4 (fun _ =>
 Xr oJ [some (.v (.bool true))]) (fun _ =>
 Xr oJ [some (.v (.bool false))]) () ()) (fun _ =>
 Xq (.bin .eql (.c z3z) (.c (.v (.string ⟨#[100, 101, 102, 97, 117, 108, 116]⟩)))) (fun x5 =>
 Xc x5 (fun _ =>
 Xc x5 (fun _ =>
 Xr oJ [some (.v (.bool true))]) (fun _ =>
 Xr oJ [some (.v (.bool false))]) () ()) (fun _ =>
 Xq (.bin .eql (.c z3z) (.c (.v (.string ⟨#[116, 114, 117, 101]⟩)))) (fun x6 =>
 Xc x6 (fun _ =>
 Xc x6 (fun _ =>
 Xr oJ [some (.v (.bool true))]) (fun _ =>
 Xr oJ [some (.v (.bool false))]) () ()) (fun _ =>
 Xq (.bin .eql (.c z3z) (.c (.v (.string ⟨#[102, 97, 108, 115, 101]⟩)))) (fun x7 =>
 Xc x7 (fun _ =>
 Xr oJ [some (.v (.bool true))]) (fun _ =>
 Xr oJ [some (.v (.bool false))]) () ()) ()) () ()) ()) () ()) ()) () ()) ()) () ()) ()) () ()) ()) () ()) ()) () ()
def J_ident_word_1 (call : Eng.Call) (G : Nat → AV) (n : Nat) (oJ : Objs) (z3z z19z : AV) : Out :=
 Xc z19z (fun _ =>
 Xr oJ [some (.v (.bool true))]) (fun _ =>
 Xq (.bin .eql (.c z3z) (.c (.v (.string ⟨#[114, 101, 110, 97, 109, 101]⟩)))) (fun x8 =>
 Xc x8 (fun _ =>
 J_ident_word_0 call G n oJ z3z x8) (fun _ =>
 Xq (.bin .eql (.c z3z) (.c (.v (.string ⟨#[114, 101, 110, 117, 109, 98, 101, 114]⟩)))) (fun x9 =>
 Xc x9 (fun _ =>
 J_ident_word_0 call G n oJ z3z x9) (fun _ =>
 Xq (.bin .eql (.c z3z) (.c (.v (.string ⟨#[114, 101, 116, 121, 112, 101]⟩)))) (fun x10 =>
 Xc x10 (fun _ =>
 J_ident_word_0 call G n oJ z3z x10) (fun _ =>
 Xq (.bin .eql (.c z3z) (.c (.v (.string ⟨#[115, 112, 108, 105, 116]⟩)))) (fun x11 =>
 Xc x11 (fun _ =>
 J_ident_word_0 call G n oJ z3z x11) (fun _ =>
 Xq (.bin .eql (.c z3z) (.c (.v (.string ⟨#[106, 111, 105, 110]⟩)))) (fun x12 =>
 Xc x12 (fun _ =>
 J_ident_word_0 call G n oJ z3z x12) (fun _ =>
 Xq (.bin .eql (.c z3z) (.c (.v (.string ⟨#[119, 114, 97, 112]⟩)))) (fun x13 =>
 Xc x13 (fun _ =>
 J_ident_word_0 call G n oJ z3z x13) (fun _ =>
 Xq (.bin .eql (.c z3z) (.c (.v (.string ⟨#[117, 110, 119, 114, 97, 112]⟩)))) (fun x14 =>
 Xc x14 (fun _ =>
 J_ident_word_0 call G n oJ z3z x14) (fun _ =>
 Xq (.bin .eql (.c z3z) (.c (.v (.string ⟨#[97, 100, 100]⟩)))) (fun x15 =>
 Xc x15 (fun _ =>
 J_ident_word_0 call G n oJ z3z x15) (fun _ =>
 Xq (.bin .eql (.c z3z) (.c (.v (.string ⟨#[100, 114, 111, 112]⟩)))) (fun x16 =>
 J_ident_word_0 call G n oJ z3z x16) ()) () ()) ()) () ()) ()) () ()) ()) () ()) ()) () ()) ()) () ()) ()) () ()) ()) () ()) ()) () ()
def J_ident_word_2 (call : Eng.Call) (G : Nat → AV) (n : Nat) (oJ : Objs) (z3z z11z : AV) : Out :=
 Xc z11z (fun _ =>
 Xr oJ [some (.v (.bool true))]) (fun _ =>
 Xq (.bin .eql (.c z3z) (.c (.v (.string ⟨#[102, 105, 120, 101, 100, 51, 50]⟩)))) (fun x17 =>
 Xc x17 (fun _ =>
 J_ident_word_1 call G n oJ z3z x17) (fun _ =>
 Xq (.bin .eql (.c z3z) (.c (.v (.string ⟨#[102, 105, 120, 101, 100, 54, 52]⟩)))) (fun x18 =>
 Xc x18 (fun _ =>
 J_ident_word_1 call G n oJ z3z x18) (fun _ =>
 Xq (.bin .eql (.c z3z) (.c (.v (.string ⟨#[115, 102, 105, 120, 101, 100, 51, 50]⟩)))) (fun x19 =>
 Xc x19 (fun _ =>
 J_ident_word_1 call G n oJ z3z x19) (fun _ =>
 Xq (.bin .eql (.c z3z) (.c (.v (.string ⟨#[115, 102, 105, 120, 101, 100, 54, 52]⟩)))) (fun x20 =>
 Xc x20 (fun _ =>
 J_ident_word_1 call G n oJ z3z x20) (fun _ =>
 Xq (.bin .eql (.c z3z) (.c (.v (.string ⟨#[115, 116, 114, 105, 110, 103]⟩)))) (fun x21 =>
 Xc x21 (fun _ =>
 J_ident_word_1 call G n oJ z3z x21) (fun _ =>
 Xq (.bin .eql (.c z3z) (.c (.v (.string ⟨#[98, 121, 116, 101, 115]⟩)))) (fun x22 =>
 J_ident_word_1 call G n oJ z3z x22) ()) () ()) ()) () ()) ()) () ()) ()) () ()) ()) () ()) ()) () ()
def J_ident_word_3 (call : Eng.Call) (G : Nat → AV) (n : Nat) (oJ : Objs) (z3z z4z : AV) : Out :=
 Xc z4z (fun _ =>
 Xr oJ [some (.v (.bool true))]) (fun _ =>
 Xq (.bin .eql (.c z3z) (.c (.v (.string ⟨#[105, 110, 116, 51, 50]⟩)))) (fun x23 =>
 Xc x23 (fun _ =>
 J_ident_word_2 call G n oJ z3z x23) (fun _ =>
 Xq (.bin .eql (.c z3z) (.c (.v (.string ⟨#[105, 110, 116, 54, 52]⟩)))) (fun x24 =>
 Xc x24 (fun _ =>
 J_ident_word_2 call G n oJ z3z x24) (fun _ =>
 Xq (.bin .eql (.c z3z) (.c (.v (.string ⟨#[117, 105, 110, 116, 51, 50]⟩)))) (fun x25 =>
 Xc x25 (fun _ =>
 J_ident_word_2 call G n oJ z3z x25) (fun _ =>
 Xq (.bin .eql (.c z3z) (.c (.v (.string ⟨#[117, 105, 110, 116, 54, 52]⟩)))) (fun x26 =>
 Xc x26 (fun _ =>
 J_ident_word_2 call G n oJ z3z x26) (fun _ =>
 Xq (.bin .eql (.c z3z) (.c (.v (.string ⟨#[115, 105, 110, 116, 51, 50]⟩)))) (fun x27 =>
 Xc x27 (fun _ =>
 J_ident_word_2 call G n oJ z3z x27) (fun _ =>
 Xq (.bin .eql (.c z3z) (.c (.v (.string ⟨#[115, 105, 110, 116, 54, 52]⟩)))) (fun x28 =>
 Xc x28 (fun _ =>
 J_ident_word_2 call G n oJ z3z x28) (fun _ =>
 Xq (.bin .eql (.c z3z) (.c (.v (.string ⟨#[98, 111, 111, 108]⟩)))) (fun x29 =>
 J_ident_word_2 call G n oJ z3z x29) ()) () ()) ()) () ()) ()) () ()) ()) () ()) ()) () ()) ()) () ()) ()) () ()
set_option maxRecDepth 100000 in
theorem s_ident_word (call : Eng.Call) (G : Nat → AV) (n : Nat) (x0 : AV) : denFE call G v_ident_word n c_ident_word [x0] =
 Xq (.bin .eql (.c x0) (.c (.v (.string ⟨#[101, 110, 117, 109]⟩)))) (fun x30 =>
 Xc x30 (fun _ =>
 J_ident_word_3 call G n [] x0 x30) (fun _ =>
 Xq (.bin .eql (.c x0) (.c (.v (.string ⟨#[109, 101, 115, 115, 97, 103, 101]⟩)))) (fun x31 =>
 Xc x31 (fun _ =>
 J_ident_word_3 call G n [] x0 x31) (fun _ =>
 Xq (.bin .eql (.c x0) (.c (.v (.string ⟨#[111, 110, 101, 111, 102]⟩)))) (fun x32 =>
 Xc x32 (fun _ =>
 J_ident_word_3 call G n [] x0 x32) (fun _ =>
 Xq (.bin .eql (.c x0) (.c (.v (.string ⟨#[114, 101, 112, 101, 97, 116, 101, 100]⟩)))) (fun x33 =>
 Xc x33 (fun _ =>
 J_ident_word_3 call G n [] x0 x33) (fun _ =>
 Xq (.bin .eql (.c x0) (.c (.v (.string ⟨#[114, 101, 115, 101, 114, 118, 101, 100]⟩)))) (fun x34 =>
 Xc x34 (fun _ =>
 J_ident_word_3 call G n [] x0 x34) (fun _ =>
 Xq (.bin .eql (.c x0) (.c (.v (.string ⟨#[108, 111, 111, 115, 101]⟩)))) (fun x35 =>
 J_ident_word_3 call G n [] x0 x35) ()) () ()) ()) () ()) ()) () ()) ()) () ()) ()) () ()) () := by kernel_rfl
def k_slices_IndexFunc_Lstring_string__0 : List Nat := [0, 1, 7, 8]
def c_slices_IndexFunc_Lstring_string__b0 : CC := .seq (.reg [] [
  ⟨(some 9), none, .bin .lss (.t 8) (.t 7)⟩]) (
  .seq (.cond (.t 9) (
  .skip) (
  .exit 0)) (
  .seq (.block 1 (
  .seq (.reg [] [
  ⟨(some 10), none, .mv (.t 8)⟩,
  ⟨(some 5), none, .mv (.t 10)⟩]) (
  .seq (.reg [] [
  ⟨(some 11), none, .mv (.t 1)⟩,
  ⟨(some 12), none, .mv (.t 0)⟩,
  ⟨(some 13), none, .mv (.t 5)⟩,
  ⟨(some 14), none, .ias 1 (.t 12) (.t 13)⟩,
  ⟨(some 15), none, .ld false 1 (.t 14)⟩,
  ⟨(some 16), none, .cal false (.t 11) [(.t 15)]⟩]) (
  .cond (.t 16) (
  .seq (.reg [] [
  ⟨(some 17), none, .mv (.t 5)⟩,
  ⟨(some 4), none, .mv (.t 17)⟩]) (
  .ret)) (
  .skip))))) (
  .reg [] [
  ⟨(some 18), none, .bin .add (.t 8) (.c (.v (.int .i64 1)))⟩,
  ⟨(some 8), none, .mv (.t 18)⟩])))
def c_slices_IndexFunc_Lstring_string__s0 : CC := .seq (.reg [] [
  ⟨(some 4), none, .mv (.c (.v (.int .i64 (-1))))⟩]) (
  .ret)
def c_slices_IndexFunc_Lstring_string_ : CF := ⟨2, 19,
  .seq (.reg [] [
  ⟨(some 4), none, .mv (.c (.v (.int .i64 0)))⟩]) (
  .seq (.seq (.reg [] [
  ⟨(some 6), none, .mv (.t 0)⟩,
  ⟨(some 7), none, .len false (.t 6)⟩,
  ⟨(some 8), none, .mv (.c (.v (.int .i64 0)))⟩]) (
  .block 0 (
  .loop k_slices_IndexFunc_Lstring_string__0 c_slices_IndexFunc_Lstring_string__b0))) c_slices_IndexFunc_Lstring_string__s0),
  [.t 4]⟩
def v_slices_IndexFunc_Lstring_string_ : List Nat := []
def R_slices_IndexFunc_Lstring_string__0 (call : Eng.Call) (G : Nat → AV) (n m0 : Nat) (o : Objs) (y0 y1 y7 y8 : AV) : Out := roundsE k_slices_IndexFunc_Lstring_string__0 (denE 19 call G v_slices_IndexFunc_Lstring_string_ n c_slices_IndexFunc_Lstring_string__b0) m0 [y0, y1, y7, y8] o (eBlock 0 (eSeq (denE 19 call G v_slices_IndexFunc_Lstring_string_ n c_slices_IndexFunc_Lstring_string__s0) (eEnd [.t 4])))
set_option maxRecDepth 100000 in
theorem R_slices_IndexFunc_Lstring_string__0_s (call : Eng.Call) (G : Nat → AV) (n m0 : Nat) (o : Objs) (y0 y1 y7 y8 : AV) : R_slices_IndexFunc_Lstring_string__0 call G n (m0 + 1) o y0 y1 y7 y8 =
 Xq (.bin .lss (.c y8) (.c y7)) (fun x3 =>
 Xc x3 (fun _ =>
 Xq (.ias 1 (.c y0) (.c y8)) (fun x4 =>
 Xx call o 15 (.ld false 1 (.c x4)) (fun x5 ox5 =>
 Xx call ox5 16 (.cal false (.c y1) [(.c x5)]) (fun x6 ox6 =>
 Xc x6 (fun _ =>
 Xr ox6 [some y8]) (fun _ =>
 Xq (.bin .add (.c y8) (.c (.v (.int .i64 1)))) (fun x7 =>
 R_slices_IndexFunc_Lstring_string__0 call G n m0 (maskO k_slices_IndexFunc_Lstring_string__0 ox6) (msk k_slices_IndexFunc_Lstring_string__0 y0) (msk k_slices_IndexFunc_Lstring_string__0 y1) (msk k_slices_IndexFunc_Lstring_string__0 y7) (msk k_slices_IndexFunc_Lstring_string__0 x7)) ()) () ()) ()) ()) ()) (fun _ =>
 Xr o [some (.v (.int .i64 (-1)))]) () ()) () := by kernel_rfl
set_option maxRecDepth 100000 in
theorem s_slices_IndexFunc_Lstring_string_ (call : Eng.Call) (G : Nat → AV) (n : Nat) (x0 x1 : AV) : denFE call G v_slices_IndexFunc_Lstring_string_ n c_slices_IndexFunc_Lstring_string_ [x0, x1] =
 Xq (.len false (.c x0)) (fun x2 =>
 R_slices_IndexFunc_Lstring_string__0 call G n n (maskO k_slices_IndexFunc_Lstring_string__0 []) (msk k_slices_IndexFunc_Lstring_string__0 x0) (msk k_slices_IndexFunc_Lstring_string__0 x1) (msk k_slices_IndexFunc_Lstring_string__0 x2) (msk k_slices_IndexFunc_Lstring_string__0 (.v (.int .i64 0)))) () := by kernel_rfl
def c_field_named : CF := ⟨1, 29,
  .seq (.reg [] [
  ⟨(some 1), none, .box 7 [0, 0, 0, 0, 0, 0, 0] (.t 0)⟩,
  ⟨(some 2), none, .mv (.c (.v (.bool false)))⟩]) (
  .seq (.reg [] [
  ⟨(some 4), none, .fad (.t 1) 3⟩,
  ⟨(some 5), none, .ld false 1 (.t 4)⟩,
  ⟨(some 6), none, .bin .eql (.t 5) (.c (.v (.string ⟨#[]⟩)))⟩,
  ⟨(some 3), none, .mv (.t 6)⟩]) (
  .seq (.seq (.reg [] [
  ⟨(some 7), none, .fad (.t 1) 2⟩,
  ⟨(some 8), none, .ld false 1 (.t 7)⟩,
  ⟨(some 9), none, .call false i_field_refers [(.t 8)]⟩]) (
  .cond (.t 9) (
  .reg [] [
  ⟨(some 10), none, .fad (.t 1) 3⟩,
  ⟨(some 11), none, .ld false 1 (.t 10)⟩,
  ⟨(some 12), none, .call false i_ident_Right [(.t 11)]⟩,
  ⟨(some 3), none, .mv (.t 12)⟩]) (
  .skip))) (
  .seq (.reg [] [
  ⟨(some 13), none, .mv (.t 3)⟩,
  ⟨(some 14), none, .mv (.t 13)⟩,
  ⟨(some 15), (some (14, true)), .fad (.t 1) 0⟩,
  ⟨(some 16), (some (14, true)), .ld false 1 (.t 15)⟩,
  ⟨(some 17), (some (14, true)), .call false i_ident_Right [(.t 16)]⟩,
  ⟨(some 18), none, .pick (.t 14) (.t 17) (.c (.v (.bool false)))⟩,
  ⟨(some 19), none, .mv (.t 18)⟩,
  ⟨(some 20), (some (19, true)), .fad (.t 1) 6⟩,
  ⟨(some 21), (some (19, true)), .ld false 1 (.t 20)⟩,
  ⟨(some 22), (some (19, true)), .bin .eql (.t 21) (.c (.v (.string ⟨#[]⟩)))⟩,
  ⟨(some 23), (some (19, true)), .mv (.t 22)⟩,
  ⟨(some 24), (some (23, false)), .fad (.t 1) 6⟩,
  ⟨(some 25), (some (23, false)), .ld false 1 (.t 24)⟩,
  ⟨(some 26), (some (23, false)), .call false i_ident_Right [(.t 25)]⟩,
  ⟨(some 27), (some (19, true)), .pick (.t 23) (.c (.v (.bool true))) (.t 26)⟩,
  ⟨(some 28), none, .pick (.t 19) (.t 27) (.c (.v (.bool false)))⟩,
  ⟨(some 2), none, .mv (.t 28)⟩]) (
  .ret)))),
  [.t 2]⟩
def v_field_named : List Nat := []
def J_field_named_0 (call : Eng.Call) (G : Nat → AV) (n : Nat) (oJ : Objs) (z1z z3z : AV) : Out :=
 Xgq z3z true (.fad (.c z1z) 0) (fun x5 =>
 Xxg call z3z true oJ 16 (.ld false 1 (.c x5)) (fun x6 ox6 =>
 Xxg call z3z true ox6 17 (.call false i_ident_Right [(.c x6)]) (fun x7 ox7 =>
 Xq (.pick (.c z3z) (.c x7) (.c (.v (.bool false)))) (fun x8 =>
 Xgq x8 true (.fad (.c z1z) 6) (fun x9 =>
 Xxg call x8 true ox7 21 (.ld false 1 (.c x9)) (fun x10 ox10 =>
 Xgq x8 true (.bin .eql (.c x10) (.c (.v (.string ⟨#[]⟩)))) (fun x11 =>
 Xgq x8 true (.mv (.c x11)) (fun x12 =>
 Xgq x12 false (.fad (.c z1z) 6) (fun x13 =>
 Xxg call x12 false ox10 25 (.ld false 1 (.c x13)) (fun x14 ox14 =>
 Xxg call x12 false ox14 26 (.call false i_ident_Right [(.c x14)]) (fun x15 ox15 =>
 Xgq x8 true (.pick (.c x12) (.c (.v (.bool true))) (.c x15)) (fun x16 =>
 Xq (.pick (.c x8) (.c x16) (.c (.v (.bool false)))) (fun x17 =>
 Xr ox15 [some x17]) ()) ()) ()) ()) ()) ()) ()) ()) ()) ()) ()) ()) ()
set_option maxRecDepth 100000 in
theorem s_field_named (call : Eng.Call) (G : Nat → AV) (n : Nat) (x0 : AV) : denFE call G v_field_named n c_field_named [x0] =
 Xx call [] 1 (.box 7 [0, 0, 0, 0, 0, 0, 0] (.c x0)) (fun x1 ox1 =>
 Xq (.fad (.c x1) 3) (fun x2 =>
 Xx call ox1 5 (.ld false 1 (.c x2)) (fun x3 ox3 =>
 Xq (.bin .eql (.c x3) (.c (.v (.string ⟨#[]⟩)))) (fun x4 =>
 Xq (.fad (.c x1) 2) (fun x18 =>
 Xx call ox3 8 (.ld false 1 (.c x18)) (fun x19 ox19 =>
 Xx call ox19 9 (.call false i_field_refers [(.c x19)]) (fun x20 ox20 =>
 Xc x20 (fun _ =>
 Xq (.fad (.c x1) 3) (fun x21 =>
 Xx call ox20 11 (.ld false 1 (.c x21)) (fun x22 ox22 =>
 Xx call ox22 12 (.call false i_ident_Right [(.c x22)]) (fun x23 ox23 =>
 J_field_named_0 call G n ox23 x1 x23) ()) ()) ()) (fun _ =>
 J_field_named_0 call G n ox20 x1 x4) () ()) ()) ()) ()) ()) ()) ()) () := by kernel_rfl
def c_scalar_Number : CF := ⟨1, 7,
  .seq (.reg [] [
  ⟨(some 2), none, .mv (.c (.v (.bool false)))⟩]) (
  .seq (.reg [] [
  ⟨(some 3), none, .mv (.t 0)⟩,
  ⟨(some 4), none, .call false i_scalar_kind [(.t 3)]⟩,
  ⟨(some 5), none, .bin .and (.t 4) (.c (.v (.int .i64 2)))⟩,
  ⟨(some 6), none, .bin .neq (.t 5) (.c (.v (.int .i64 0)))⟩,
  ⟨(some 2), none, .mv (.t 6)⟩]) (
  .ret)),
  [.t 2]⟩
def v_scalar_Number : List Nat := []
set_option maxRecDepth 100000 in
theorem s_scalar_Number (call : Eng.Call) (G : Nat → AV) (n : Nat) (x0 : AV) : denFE call G v_scalar_Number n c_scalar_Number [x0] =
 Xx call [] 4 (.call false i_scalar_kind [(.c x0)]) (fun x1 ox1 =>
 Xq (.bin .and (.c x1) (.c (.v (.int .i64 2)))) (fun x2 =>
 Xq (.bin .neq (.c x2) (.c (.v (.int .i64 0)))) (fun x3 =>
 Xr ox1 [some x3]) ()) ()) () := by kernel_rfl
def c_tag_Field : CF := ⟨1, 13,
  .seq (.reg [] [
  ⟨(some 2), none, .mv (.c (.v (.bool false)))⟩]) (
  .seq (.reg [] [
  ⟨(some 3), none, .mv (.t 0)⟩,
  ⟨(some 4), none, .call false i_tag_number [(.t 3)]⟩,
  ⟨(some 5), none, .mv (.t 4)⟩,
  ⟨(some 6), (some (5, true)), .mv (.t 0)⟩,
  ⟨(some 7), (some (5, true)), .bin .lss (.t 6) (.c (.v (.int .i64 19000)))⟩,
  ⟨(some 8), (some (5, true)), .mv (.t 7)⟩,
  ⟨(some 9), (some (8, false)), .mv (.t 0)⟩,
  ⟨(some 10), (some (8, false)), .bin .gtr (.t 9) (.c (.v (.int .i64 19999)))⟩,
  ⟨(some 11), (some (5, true)), .pick (.t 8) (.c (.v (.bool true))) (.t 10)⟩,
  ⟨(some 12), none, .pick (.t 5) (.t 11) (.c (.v (.bool false)))⟩,
  ⟨(some 2), none, .mv (.t 12)⟩]) (
  .ret)),
  [.t 2]⟩
def v_tag_Field : List Nat := []
set_option maxRecDepth 100000 in
theorem s_tag_Field (call : Eng.Call) (G : Nat → AV) (n : Nat) (x0 : AV) : denFE call G v_tag_Field n c_tag_Field [x0] =
 Xx call [] 4 (.call false i_tag_number [(.c x0)]) (fun x1 ox1 =>
 Xgq x1 true (.mv (.c x0)) (fun x2 =>
 Xgq x1 true (.bin .lss (.c x2) (.c (.v (.int .i64 19000)))) (fun x3 =>
 Xgq x1 true (.mv (.c x3)) (fun x4 =>
 Xgq x4 false (.mv (.c x0)) (fun x5 =>
 Xgq x4 false (.bin .gtr (.c x5) (.c (.v (.int .i64 19999)))) (fun x6 =>
 Xgq x1 true (.pick (.c x4) (.c (.v (.bool true))) (.c x6)) (fun x7 =>
 Xq (.pick (.c x1) (.c x7) (.c (.v (.bool false)))) (fun x8 =>
 Xr ox1 [some x8]) ()) ()) ()) ()) ()) ()) ()) () := by kernel_rfl
def k_slices_IndexFunc_Lapi_Field_api_Field__0 : List Nat := [0, 1, 7, 8]
def c_slices_IndexFunc_Lapi_Field_api_Field__b0 : CC := .seq (.reg [] [
  ⟨(some 9), none, .bin .lss (.t 8) (.t 7)⟩]) (
  .seq (.cond (.t 9) (
  .skip) (
  .exit 0)) (
  .seq (.block 1 (
  .seq (.reg [] [
  ⟨(some 10), none, .mv (.t 8)⟩,
  ⟨(some 5), none, .mv (.t 10)⟩]) (
  .seq (.reg [] [
  ⟨(some 11), none, .mv (.t 1)⟩,
  ⟨(some 12), none, .mv (.t 0)⟩,
  ⟨(some 13), none, .mv (.t 5)⟩,
  ⟨(some 14), none, .ias 7 (.t 12) (.t 13)⟩,
  ⟨(some 15), none, .ld true 7 (.t 14)⟩,
  ⟨(some 16), none, .cal false (.t 11) [(.t 15)]⟩]) (
  .cond (.t 16) (
  .seq (.reg [] [
  ⟨(some 17), none, .mv (.t 5)⟩,
  ⟨(some 4), none, .mv (.t 17)⟩]) (
  .ret)) (
  .skip))))) (
  .reg [] [
  ⟨(some 18), none, .bin .add (.t 8) (.c (.v (.int .i64 1)))⟩,
  ⟨(some 8), none, .mv (.t 18)⟩])))
def c_slices_IndexFunc_Lapi_Field_api_Field__s0 : CC := .seq (.reg [] [
  ⟨(some 4), none, .mv (.c (.v (.int .i64 (-1))))⟩]) (
  .ret)
def c_slices_IndexFunc_Lapi_Field_api_Field_ : CF := ⟨2, 19,
  .seq (.reg [] [
  ⟨(some 4), none, .mv (.c (.v (.int .i64 0)))⟩]) (
  .seq (.seq (.reg [] [
  ⟨(some 6), none, .mv (.t 0)⟩,
  ⟨(some 7), none, .len false (.t 6)⟩,
  ⟨(some 8), none, .mv (.c (.v (.int .i64 0)))⟩]) (
  .block 0 (
  .loop k_slices_IndexFunc_Lapi_Field_api_Field__0 c_slices_IndexFunc_Lapi_Field_api_Field__b0))) c_slices_IndexFunc_Lapi_Field_api_Field__s0),
  [.t 4]⟩
def v_slices_IndexFunc_Lapi_Field_api_Field_ : List Nat := []
def R_slices_IndexFunc_Lapi_Field_api_Field__0 (call : Eng.Call) (G : Nat → AV) (n m0 : Nat) (o : Objs) (y0 y1 y7 y8 : AV) : Out := roundsE k_slices_IndexFunc_Lapi_Field_api_Field__0 (denE 19 call G v_slices_IndexFunc_Lapi_Field_api_Field_ n c_slices_IndexFunc_Lapi_Field_api_Field__b0) m0 [y0, y1, y7, y8] o (eBlock 0 (eSeq (denE 19 call G v_slices_IndexFunc_Lapi_Field_api_Field_ n c_slices_IndexFunc_Lapi_Field_api_Field__s0) (eEnd [.t 4])))
set_option maxRecDepth 100000 in
theorem R_slices_IndexFunc_Lapi_Field_api_Field__0_s (call : Eng.Call) (G : Nat → AV) (n m0 : Nat) (o : Objs) (y0 y1 y7 y8 : AV) : R_slices_IndexFunc_Lapi_Field_api_Field__0 call G n (m0 + 1) o y0 y1 y7 y8 =
 Xq (.bin .lss (.c y8) (.c y7)) (fun x3 =>
 Xc x3 (fun _ =>
 Xq (.ias 7 (.c y0) (.c y8)) (fun x4 =>
 Xx call o 15 (.ld true 7 (.c x4)) (fun x5 ox5 =>
 Xx call ox5 16 (.cal false (.c y1) [(.c x5)]) (fun x6 ox6 =>
 Xc x6 (fun _ =>
 Xr ox6 [some y8]) (fun _ =>
 Xq (.bin .add (.c y8) (.c (.v (.int .i64 1)))) (fun x7 =>
 R_slices_IndexFunc_Lapi_Field_api_Field__0 call G n m0 (maskO k_slices_IndexFunc_Lapi_Field_api_Field__0 ox6) (msk k_slices_IndexFunc_Lapi_Field_api_Field__0 y0) (msk k_slices_IndexFunc_Lapi_Field_api_Field__0 y1) (msk k_slices_IndexFunc_Lapi_Field_api_Field__0 y7) (msk k_slices_IndexFunc_Lapi_Field_api_Field__0 x7)) ()) () ()) ()) ()) ()) (fun _ =>
 Xr o [some (.v (.int .i64 (-1)))]) () ()) () := by kernel_rfl
set_option maxRecDepth 100000 in
theorem s_slices_IndexFunc_Lapi_Field_api_Field_ (call : Eng.Call) (G : Nat → AV) (n : Nat) (x0 x1 : AV) : denFE call G v_slices_IndexFunc_Lapi_Field_api_Field_ n c_slices_IndexFunc_Lapi_Field_api_Field_ [x0, x1] =
 Xq (.len false (.c x0)) (fun x2 =>
 R_slices_IndexFunc_Lapi_Field_api_Field__0 call G n n (maskO k_slices_IndexFunc_Lapi_Field_api_Field__0 []) (msk k_slices_IndexFunc_Lapi_Field_api_Field__0 x0) (msk k_slices_IndexFunc_Lapi_Field_api_Field__0 x1) (msk k_slices_IndexFunc_Lapi_Field_api_Field__0 x2) (msk k_slices_IndexFunc_Lapi_Field_api_Field__0 (.v (.int .i64 0)))) () := by kernel_rfl
def k_slices_Index_Lstring_string__0 : List Nat := [0, 1, 7, 8]
def c_slices_Index_Lstring_string__b0 : CC := .seq (.reg [] [
  ⟨(some 9), none, .bin .lss (.t 8) (.t 7)⟩]) (
  .seq (.cond (.t 9) (
  .skip) (
  .exit 0)) (
  .seq (.block 1 (
  .seq (.reg [] [
  ⟨(some 10), none, .mv (.t 8)⟩,
  ⟨(some 5), none, .mv (.t 10)⟩]) (
  .seq (.reg [] [
  ⟨(some 11), none, .mv (.t 1)⟩,
  ⟨(some 12), none, .mv (.t 0)⟩,
  ⟨(some 13), none, .mv (.t 5)⟩,
  ⟨(some 14), none, .ias 1 (.t 12) (.t 13)⟩,
  ⟨(some 15), none, .ld false 1 (.t 14)⟩,
  ⟨(some 16), none, .bin .eql (.t 11) (.t 15)⟩]) (
  .cond (.t 16) (
  .seq (.reg [] [
  ⟨(some 17), none, .mv (.t 5)⟩,
  ⟨(some 4), none, .mv (.t 17)⟩]) (
  .ret)) (
  .skip))))) (
  .reg [] [
  ⟨(some 18), none, .bin .add (.t 8) (.c (.v (.int .i64 1)))⟩,
  ⟨(some 8), none, .mv (.t 18)⟩])))
def c_slices_Index_Lstring_string__s0 : CC := .seq (.reg [] [
  ⟨(some 4), none, .mv (.c (.v (.int .i64 (-1))))⟩]) (
  .ret)
def c_slices_Index_Lstring_string_ : CF := ⟨2, 19,
  .seq (.reg [] [
  ⟨(some 4), none, .mv (.c (.v (.int .i64 0)))⟩]) (
  .seq (.seq (.reg [] [
  ⟨(some 6), none, .mv (.t 0)⟩,
  ⟨(some 7), none, .len false (.t 6)⟩,
  ⟨(some 8), none, .mv (.c (.v (.int .i64 0)))⟩]) (
  .block 0 (
  .loop k_slices_Index_Lstring_string__0 c_slices_Index_Lstring_string__b0))) c_slices_Index_Lstring_string__s0),
  [.t 4]⟩
def v_slices_Index_Lstring_string_ : List Nat := []
def R_slices_Index_Lstring_string__0 (call : Eng.Call) (G : Nat → AV) (n m0 : Nat) (o : Objs) (y0 y1 y7 y8 : AV) : Out := roundsE k_slices_Index_Lstring_string__0 (denE 19 call G v_slices_Index_Lstring_string_ n c_slices_Index_Lstring_string__b0) m0 [y0, y1, y7, y8] o (eBlock 0 (eSeq (denE 19 call G v_slices_Index_Lstring_string_ n c_slices_Index_Lstring_string__s0) (eEnd [.t 4])))
set_option maxRecDepth 100000 in
theorem R_slices_Index_Lstring_string__0_s (call : Eng.Call) (G : Nat → AV) (n m0 : Nat) (o : Objs) (y0 y1 y7 y8 : AV) : R_slices_Index_Lstring_string__0 call G n (m0 + 1) o y0 y1 y7 y8 =
 Xq (.bin .lss (.c y8) (.c y7)) (fun x3 =>
 Xc x3 (fun _ =>
 Xq (.ias 1 (.c y0) (.c y8)) (fun x4 =>
 Xx call o 15 (.ld false 1 (.c x4)) (fun x5 ox5 =>
 Xq (.bin .eql (.c y1) (.c x5)) (fun x6 =>
 Xc x6 (fun _ =>
 Xr ox5 [some y8]) (fun _ =>
 Xq (.bin .add (.c y8) (.c (.v (.int .i64 1)))) (fun x7 =>
 R_slices_Index_Lstring_string__0 call G n m0 (maskO k_slices_Index_Lstring_string__0 ox5) (msk k_slices_Index_Lstring_string__0 y0) (msk k_slices_Index_Lstring_string__0 y1) (msk k_slices_Index_Lstring_string__0 y7) (msk k_slices_Index_Lstring_string__0 x7)) ()) () ()) ()) ()) ()) (fun _ =>
 Xr o [some (.v (.int .i64 (-1)))]) () ()) () := by kernel_rfl
set_option maxRecDepth 100000 in
theorem s_slices_Index_Lstring_string_ (call : Eng.Call) (G : Nat → AV) (n : Nat) (x0 x1 : AV) : denFE call G v_slices_Index_Lstring_string_ n c_slices_Index_Lstring_string_ [x0, x1] =
 Xq (.len false (.c x0)) (fun x2 =>
 R_slices_Index_Lstring_string__0 call G n n (maskO k_slices_Index_Lstring_string__0 []) (msk k_slices_Index_Lstring_string__0 x0) (msk k_slices_Index_Lstring_string__0 x1) (msk k_slices_Index_Lstring_string__0 x2) (msk k_slices_Index_Lstring_string__0 (.v (.int .i64 0)))) () := by kernel_rfl
def k_schema_rises_0 : List Nat := [0, 5, 6, 7]
def c_schema_rises_b0 : CC := .seq (.reg [] [
  ⟨(some 8), none, .bin .lss (.t 7) (.t 6)⟩]) (
  .seq (.cond (.t 8) (
  .skip) (
  .exit 0)) (
  .seq (.block 1 (
  .seq (.reg [] [
  ⟨(some 9), none, .mv (.t 7)⟩,
  ⟨(some 10), none, .ias 1 (.t 5) (.t 7)⟩,
  ⟨(some 11), none, .ld false 1 (.t 10)⟩,
  ⟨(some 3), none, .mv (.t 9)⟩,
  ⟨(some 4), none, .mv (.t 11)⟩]) (
  .seq (.reg [] [
  ⟨(some 12), none, .mv (.t 3)⟩,
  ⟨(some 13), none, .bin .gtr (.t 12) (.c (.v (.int .i64 0)))⟩,
  ⟨(some 14), none, .mv (.t 13)⟩,
  ⟨(some 15), (some (14, true)), .mv (.t 0)⟩,
  ⟨(some 16), (some (14, true)), .mv (.t 3)⟩,
  ⟨(some 17), (some (14, true)), .bin .sub (.t 16) (.c (.v (.int .i64 1)))⟩,
  ⟨(some 18), (some (14, true)), .ias 1 (.t 15) (.t 17)⟩,
  ⟨(some 19), (some (14, true)), .ld false 1 (.t 18)⟩,
  ⟨(some 20), (some (14, true)), .mv (.t 4)⟩,
  ⟨(some 21), (some (14, true)), .bin .geq (.t 19) (.t 20)⟩,
  ⟨(some 22), none, .pick (.t 14) (.t 21) (.c (.v (.bool false)))⟩]) (
  .cond (.t 22) (
  .seq (.reg [] [
  ⟨(some 2), none, .mv (.c (.v (.bool false)))⟩]) (
  .ret)) (
  .skip))))) (
  .reg [] [
  ⟨(some 23), none, .bin .add (.t 7) (.c (.v (.int .i64 1)))⟩,
  ⟨(some 7), none, .mv (.t 23)⟩])))
def c_schema_rises_s0 : CC := .seq (.reg [] [
  ⟨(some 2), none, .mv (.c (.v (.bool true)))⟩]) (
  .ret)
def c_schema_rises : CF := ⟨1, 24,
  .seq (.reg [] [
  ⟨(some 2), none, .mv (.c (.v (.bool false)))⟩]) (
  .seq (.seq (.reg [] [
  ⟨(some 5), none, .mv (.t 0)⟩,
  ⟨(some 6), none, .len false (.t 5)⟩,
  ⟨(some 7), none, .mv (.c (.v (.int .i64 0)))⟩]) (
  .block 0 (
  .loop k_schema_rises_0 c_schema_rises_b0))) c_schema_rises_s0),
  [.t 2]⟩
def v_schema_rises : List Nat := []
def R_schema_rises_0 (call : Eng.Call) (G : Nat → AV) (n m0 : Nat) (o : Objs) (y0 y5 y6 y7 : AV) : Out := roundsE k_schema_rises_0 (denE 24 call G v_schema_rises n c_schema_rises_b0) m0 [y0, y5, y6, y7] o (eBlock 0 (eSeq (denE 24 call G v_schema_rises n c_schema_rises_s0) (eEnd [.t 2])))
set_option maxRecDepth 100000 in
theorem R_schema_rises_0_s (call : Eng.Call) (G : Nat → AV) (n m0 : Nat) (o : Objs) (y0 y5 y6 y7 : AV) : R_schema_rises_0 call G n (m0 + 1) o y0 y5 y6 y7 =
 Xq (.bin .lss (.c y7) (.c y6)) (fun x2 =>
 Xc x2 (fun _ =>
 Xq (.ias 1 (.c y5) (.c y7)) (fun x3 =>
 Xx call o 11 (.ld false 1 (.c x3)) (fun x4 ox4 =>
 Xq (.bin .gtr (.c y7) (.c (.v (.int .i64 0)))) (fun x5 =>
 Xgq x5 true (.mv (.c y0)) (fun x6 =>
 Xgq x5 true (.mv (.c y7)) (fun x7 =>
 Xgq x5 true (.bin .sub (.c x7) (.c (.v (.int .i64 1)))) (fun x8 =>
 Xgq x5 true (.ias 1 (.c x6) (.c x8)) (fun x9 =>
 Xxg call x5 true ox4 19 (.ld false 1 (.c x9)) (fun x10 ox10 =>
 Xgq x5 true (.mv (.c x4)) (fun x11 =>
 Xgq x5 true (.bin .geq (.c x10) (.c x11)) (fun x12 =>
 Xq (.pick (.c x5) (.c x12) (.c (.v (.bool false)))) (fun x13 =>
 Xc x13 (fun _ =>
 Xr ox10 [some (.v (.bool false))]) (fun _ =>
 Xq (.bin .add (.c y7) (.c (.v (.int .i64 1)))) (fun x14 =>
 R_schema_rises_0 call G n m0 (maskO k_schema_rises_0 ox10) (msk k_schema_rises_0 y0) (msk k_schema_rises_0 y5) (msk k_schema_rises_0 y6) (msk k_schema_rises_0 x14)) ()) () ()) ()) ()) ()) ()) ()) ()) ()) ()) ()) ()) ()) (fun _ =>
 Xr o [some (.v (.bool true))]) () ()) () := by kernel_rfl
set_option maxRecDepth 100000 in
theorem s_schema_rises (call : Eng.Call) (G : Nat → AV) (n : Nat) (x0 : AV) : denFE call G v_schema_rises n c_schema_rises [x0] =
 Xq (.len false (.c x0)) (fun x1 =>
 R_schema_rises_0 call G n n (maskO k_schema_rises_0 []) (msk k_schema_rises_0 x0) (msk k_schema_rises_0 x0) (msk k_schema_rises_0 x1) (msk k_schema_rises_0 (.v (.int .i64 0)))) () := by kernel_rfl
def c_schema_numbered_1 : CF := ⟨1, 6,
  .seq (.reg [] [
  ⟨(some 2), none, .mv (.c (.v (.bool false)))⟩]) (
  .seq (.reg [] [
  ⟨(some 3), none, .mv (.t 0)⟩,
  ⟨(some 4), none, .call false i_tag_Right [(.t 3), (.c (.v (.int .i64 0)))]⟩,
  ⟨(some 5), none, .not (.t 4)⟩,
  ⟨(some 2), none, .mv (.t 5)⟩]) (
  .ret)),
  [.t 2]⟩
def v_schema_numbered_1 : List Nat := []
set_option maxRecDepth 100000 in
theorem s_schema_numbered_1 (call : Eng.Call) (G : Nat → AV) (n : Nat) (x0 : AV) : denFE call G v_schema_numbered_1 n c_schema_numbered_1 [x0] =
 Xx call [] 4 (.call false i_tag_Right [(.c x0), (.c (.v (.int .i64 0)))]) (fun x1 ox1 =>
 Xq (.not (.c x1)) (fun x2 =>
 Xr ox1 [some x2]) ()) () := by kernel_rfl
def c_tag_Right : CF := ⟨2, 19,
  .seq (.reg [] [
  ⟨(some 4), none, .mv (.c (.v (.bool false)))⟩]) (
  .seq (.reg [] [
  ⟨(some 5), none, .mv (.c (.v (.bool false)))⟩]) (
  .seq (.seq (.reg [] [
  ⟨(some 6), none, .mv (.t 1)⟩]) (
  .block 0 (
  .seq (.block 3 (
  .block 2 (
  .block 1 (
  .seq (.seq (.seq (.seq (.reg [] [
  ⟨(some 8), none, .bin .eql (.t 6) (.c (.v (.int .i64 0)))⟩,
  ⟨(some 7), none, .mv (.t 8)⟩]) (
  .cond (.t 7) (
  .skip) (
  .reg [] [
  ⟨(some 9), none, .bin .eql (.t 6) (.c (.v (.int .i64 1)))⟩,
  ⟨(some 7), none, .mv (.t 9)⟩]))) (
  .cond (.t 7) (
  .exit 1) (
  .skip))) (
  .seq (.seq (.reg [] [
  ⟨(some 11), none, .bin .eql (.t 6) (.c (.v (.int .i64 2)))⟩,
  ⟨(some 10), none, .mv (.t 11)⟩]) (
  .cond (.t 10) (
  .exit 2) (
  .skip))) (
  .seq (.reg [] [
  ⟨(some 13), none, .bin .eql (.t 6) (.c (.v (.int .i64 5)))⟩,
  ⟨(some 12), none, .mv (.t 13)⟩]) (
  .cond (.t 12) (
  .exit 3) (
  .skip))))) (
  .exit 0))))) (
  .seq (.reg [] [
  ⟨(some 5), none, .mv (.c (.v (.bool true)))⟩]) (
  .exit 0))))) (
  .seq (.reg [] [
  ⟨(some 14), none, .mv (.t 5)⟩,
  ⟨(some 15), none, .mv (.t 14)⟩,
  ⟨(some 16), (some (15, true)), .mv (.t 0)⟩,
  ⟨(some 17), (some (15, true)), .call false i_tag_number [(.t 16)]⟩,
  ⟨(some 18), none, .pick (.t 15) (.t 17) (.c (.v (.bool false)))⟩,
  ⟨(some 4), none, .mv (.t 18)⟩]) (
  .ret)))),
  [.t 4]⟩
def v_tag_Right : List Nat := []
def J_tag_Right_0 (call : Eng.Call) (G : Nat → AV) (n : Nat) (oJ : Objs) (z0z z5z z6z z7z : AV) : Out :=
 Xc z7z (fun _ =>
 Xgq (.v (.bool true)) true (.mv (.c z0z)) (fun x2 =>
 Xxg call (.v (.bool true)) true oJ 17 (.call false i_tag_number [(.c x2)]) (fun x3 ox3 =>
 Xq (.pick (.c (.v (.bool true))) (.c x3) (.c (.v (.bool false)))) (fun x4 =>
 Xr ox3 [some x4]) ()) ()) ()) (fun _ =>
 Xq (.bin .eql (.c z6z) (.c (.v (.int .i64 2)))) (fun x5 =>
 Xc x5 (fun _ =>
 Xgq (.v (.bool true)) true (.mv (.c z0z)) (fun x6 =>
 Xxg call (.v (.bool true)) true oJ 17 (.call false i_tag_number [(.c x6)]) (fun x7 ox7 =>
 Xq (.pick (.c (.v (.bool true))) (.c x7) (.c (.v (.bool false)))) (fun x8 =>
 Xr ox7 [some x8]) ()) ()) ()) (fun _ =>
 Xq (.bin .eql (.c z6z) (.c (.v (.int .i64 5)))) (fun x9 =>
 Xc x9 (fun _ =>
 Xgq (.v (.bool true)) true (.mv (.c z0z)) (fun x10 =>
 Xxg call (.v (.bool true)) true oJ 17 (.call false i_tag_number [(.c x10)]) (fun x11 ox11 =>
 Xq (.pick (.c (.v (.bool true))) (.c x11) (.c (.v (.bool false)))) (fun x12 =>
 Xr ox11 [some x12]) ()) ()) ()) (fun _ =>
 Xgq z5z true (.mv (.c z0z)) (fun x13 =>
 Xxg call z5z true oJ 17 (.call false i_tag_number [(.c x13)]) (fun x14 ox14 =>
 Xq (.pick (.c z5z) (.c x14) (.c (.v (.bool false)))) (fun x15 =>
 Xr ox14 [some x15]) ()) ()) ()) () ()) ()) () ()) ()) () ()
set_option maxRecDepth 100000 in
theorem s_tag_Right (call : Eng.Call) (G : Nat → AV) (n : Nat) (x0 x1 : AV) : denFE call G v_tag_Right n c_tag_Right [x0, x1] =
 Xq (.bin .eql (.c x1) (.c (.v (.int .i64 0)))) (fun x16 =>
 Xc x16 (fun _ =>
 J_tag_Right_0 call G n [] x0 (.v (.bool false)) x1 x16) (fun _ =>
 Xq (.bin .eql (.c x1) (.c (.v (.int .i64 1)))) (fun x17 =>
 J_tag_Right_0 call G n [] x0 (.v (.bool false)) x1 x17) ()) () ()) () := by kernel_rfl
def c_slices_ContainsFunc_Lint_int_ : CF := ⟨2, 9,
  .seq (.reg [] [
  ⟨(some 4), none, .mv (.c (.v (.bool false)))⟩]) (
  .seq (.reg [] [
  ⟨(some 5), none, .mv (.t 0)⟩,
  ⟨(some 6), none, .mv (.t 1)⟩,
  ⟨(some 7), none, .call false i_slices_IndexFunc_Lint_int_ [(.t 5), (.t 6)]⟩,
  ⟨(some 8), none, .bin .geq (.t 7) (.c (.v (.int .i64 0)))⟩,
  ⟨(some 4), none, .mv (.t 8)⟩]) (
  .ret)),
  [.t 4]⟩
def v_slices_ContainsFunc_Lint_int_ : List Nat := []
set_option maxRecDepth 100000 in
theorem s_slices_ContainsFunc_Lint_int_ (call : Eng.Call) (G : Nat → AV) (n : Nat) (x0 x1 : AV) : denFE call G v_slices_ContainsFunc_Lint_int_ n c_slices_ContainsFunc_Lint_int_ [x0, x1] =
 Xx call [] 7 (.call false i_slices_IndexFunc_Lint_int_ [(.c x0), (.c x1)]) (fun x2 ox2 =>
 Xq (.bin .geq (.c x2) (.c (.v (.int .i64 0)))) (fun x3 =>
 Xr ox2 [some x3]) ()) () := by kernel_rfl
def k_slices_Index_Lint_int__0 : List Nat := [0, 1, 7, 8]
def c_slices_Index_Lint_int__b0 : CC := .seq (.reg [] [
  ⟨(some 9), none, .bin .lss (.t 8) (.t 7)⟩]) (
  .seq (.cond (.t 9) (
  .skip) (
  .exit 0)) (
  .seq (.block 1 (
  .seq (.reg [] [
  ⟨(some 10), none, .mv (.t 8)⟩,
  ⟨(some 5), none, .mv (.t 10)⟩]) (
  .seq (.reg [] [
  ⟨(some 11), none, .mv (.t 1)⟩,
  ⟨(some 12), none, .mv (.t 0)⟩,
  ⟨(some 13), none, .mv (.t 5)⟩,
  ⟨(some 14), none, .ias 1 (.t 12) (.t 13)⟩,
  ⟨(some 15), none, .ld false 1 (.t 14)⟩,
  ⟨(some 16), none, .bin .eql (.t 11) (.t 15)⟩]) (
  .cond (.t 16) (
  .seq (.reg [] [
  ⟨(some 17), none, .mv (.t 5)⟩,
  ⟨(some 4), none, .mv (.t 17)⟩]) (
  .ret)) (
  .skip))))) (
  .reg [] [
  ⟨(some 18), none, .bin .add (.t 8) (.c (.v (.int .i64 1)))⟩,
  ⟨(some 8), none, .mv (.t 18)⟩])))
def c_slices_Index_Lint_int__s0 : CC := .seq (.reg [] [
  ⟨(some 4), none, .mv (.c (.v (.int .i64 (-1))))⟩]) (
  .ret)
def c_slices_Index_Lint_int_ : CF := ⟨2, 19,
  .seq (.reg [] [
  ⟨(some 4), none, .mv (.c (.v (.int .i64 0)))⟩]) (
  .seq (.seq (.reg [] [
  ⟨(some 6), none, .mv (.t 0)⟩,
  ⟨(some 7), none, .len false (.t 6)⟩,
  ⟨(some 8), none, .mv (.c (.v (.int .i64 0)))⟩]) (
  .block 0 (
  .loop k_slices_Index_Lint_int__0 c_slices_Index_Lint_int__b0))) c_slices_Index_Lint_int__s0),
  [.t 4]⟩
def v_slices_Index_Lint_int_ : List Nat := []
def R_slices_Index_Lint_int__0 (call : Eng.Call) (G : Nat → AV) (n m0 : Nat) (o : Objs) (y0 y1 y7 y8 : AV) : Out := roundsE k_slices_Index_Lint_int__0 (denE 19 call G v_slices_Index_Lint_int_ n c_slices_Index_Lint_int__b0) m0 [y0, y1, y7, y8] o (eBlock 0 (eSeq (denE 19 call G v_slices_Index_Lint_int_ n c_slices_Index_Lint_int__s0) (eEnd [.t 4])))
set_option maxRecDepth 100000 in
theorem R_slices_Index_Lint_int__0_s (call : Eng.Call) (G : Nat → AV) (n m0 : Nat) (o : Objs) (y0 y1 y7 y8 : AV) : R_slices_Index_Lint_int__0 call G n (m0 + 1) o y0 y1 y7 y8 =
 Xq (.bin .lss (.c y8) (.c y7)) (fun x3 =>
 Xc x3 (fun _ =>
 Xq (.ias 1 (.c y0) (.c y8)) (fun x4 =>
 Xx call o 15 (.ld false 1 (.c x4)) (fun x5 ox5 =>
 Xq (.bin .eql (.c y1) (.c x5)) (fun x6 =>
 Xc x6 (fun _ =>
 Xr ox5 [some y8]) (fun _ =>
 Xq (.bin .add (.c y8) (.c (.v (.int .i64 1)))) (fun x7 =>
 R_slices_Index_Lint_int__0 call G n m0 (maskO k_slices_Index_Lint_int__0 ox5) (msk k_slices_Index_Lint_int__0 y0) (msk k_slices_Index_Lint_int__0 y1) (msk k_slices_Index_Lint_int__0 y7) (msk k_slices_Index_Lint_int__0 x7)) ()) () ()) ()) ()) ()) (fun _ =>
 Xr o [some (.v (.int .i64 (-1)))]) () ()) () := by kernel_rfl
set_option maxRecDepth 100000 in
theorem s_slices_Index_Lint_int_ (call : Eng.Call) (G : Nat → AV) (n : Nat) (x0 x1 : AV) : denFE call G v_slices_Index_Lint_int_ n c_slices_Index_Lint_int_ [x0, x1] =
 Xq (.len false (.c x0)) (fun x2 =>
 R_slices_Index_Lint_int__0 call G n n (maskO k_slices_Index_Lint_int__0 []) (msk k_slices_Index_Lint_int__0 x0) (msk k_slices_Index_Lint_int__0 x1) (msk k_slices_Index_Lint_int__0 x2) (msk k_slices_Index_Lint_int__0 (.v (.int .i64 0)))) () := by kernel_rfl
def c_ref09_Letter : CF := ⟨1, 17,
  .seq (.reg [] [
  ⟨(some 2), none, .mv (.c (.v (.bool false)))⟩]) (
  .seq (.reg [] [
  ⟨(some 3), none, .mv (.t 0)⟩,
  ⟨(some 4), none, .bin .geq (.t 3) (.c (.v (.int .u8 97)))⟩,
  ⟨(some 5), none, .mv (.t 4)⟩,
  ⟨(some 6), (some (5, true)), .mv (.t 0)⟩,
  ⟨(some 7), (some (5, true)), .bin .leq (.t 6) (.c (.v (.int .u8 122)))⟩,
  ⟨(some 8), none, .pick (.t 5) (.t 7) (.c (.v (.bool false)))⟩,
  ⟨(some 9), none, .mv (.t 8)⟩,
  ⟨(some 10), (some (9, false)), .mv (.t 0)⟩,
  ⟨(some 11), (some (9, false)), .bin .geq (.t 10) (.c (.v (.int .u8 65)))⟩,
  ⟨(some 12), (some (9, false)), .mv (.t 11)⟩,
  ⟨(some 13), (some (12, true)), .mv (.t 0)⟩,
  ⟨(some 14), (some (12, true)), .bin .leq (.t 13) (.c (.v (.int .u8 90)))⟩,
  ⟨(some 15), (some (9, false)), .pick (.t 12) (.t 14) (.c (.v (.bool false)))⟩,
  ⟨(some 16), none, .pick (.t 9) (.c (.v (.bool true))) (.t 15)⟩,
  ⟨(some 2), none, .mv (.t 16)⟩]) (
  .ret)),
  [.t 2]⟩
def v_ref09_Letter : List Nat := []
set_option maxRecDepth 100000 in
theorem s_ref09_Letter (call : Eng.Call) (G : Nat → AV) (n : Nat) (x0 : AV) : denFE call G v_ref09_Letter n c_ref09_Letter [x0] =
 Xq (.bin .geq (.c x0) (.c (.v (.int .u8 97)))) (fun x1 =>
 Xgq x1 true (.mv (.c x0)) (fun x2 =>
 Xgq x1 true (.bin .leq (.c x2) (.c (.v (.int .u8 122)))) (fun x3 =>
 Xq (.pick (.c x1) (.c x3) (.c (.v (.bool false)))) (fun x4 =>
 Xgq x4 false (.mv (.c x0)) (fun x5 =>
 Xgq x4 false (.bin .geq (.c x5) (.c (.v (.int .u8 65)))) (fun x6 =>
 Xgq x4 false (.mv (.c x6)) (fun x7 =>
 Xgq x7 true (.mv (.c x0)) (fun x8 =>
 Xgq x7 true (.bin .leq (.c x8) (.c (.v (.int .u8 90)))) (fun x9 =>
 Xgq x4 false (.pick (.c x7) (.c x9) (.c (.v (.bool false)))) (fun x10 =>
 Xq (.pick (.c x4) (.c (.v (.bool true))) (.c x10)) (fun x11 =>
 Xr [] [some x11]) ()) ()) ()) ()) ()) ()) ()) ()) ()) ()) () := by kernel_rfl
def c_ref09_words : CF := ⟨0, 2,
  .seq (.reg [] [
  ⟨(some 0), none, .nil 1⟩]) (
  .seq (.reg [] [
  ⟨(some 1), none, .bsl 35 1 [(.v (.string ⟨#[]⟩))] [(0, (.c (.v (.string ⟨#[101, 110, 117, 109]⟩)))), (1, (.c (.v (.string ⟨#[109, 101, 115, 115, 97, 103, 101]⟩)))), (2, (.c (.v (.string ⟨#[111, 110, 101, 111, 102]⟩)))), (3, (.c (.v (.string ⟨#[114, 101, 112, 101, 97, 116, 101, 100]⟩)))), (4, (.c (.v (.string ⟨#[114, 101, 115, 101, 114, 118, 101, 100]⟩)))), (5, (.c (.v (.string ⟨#[108, 111, 111, 115, 101]⟩)))), (6, (.c (.v (.string ⟨#[105, 110, 116, 51, 50]⟩)))), (7, (.c (.v (.string ⟨#[105, 110, 116, 54, 52]⟩)))), (8, (.c (.v (.string ⟨#[117, 105, 110, 116, 51, 50]⟩)))), (9, (.c (.v (.string ⟨#[117, 105, 110, 116, 54, 52]⟩)))), (10, (.c (.v (.string ⟨#[115, 105, 110, 116, 51, 50]⟩)))), (11, (.c (.v (.string ⟨#[115, 105, 110, 116, 54, 52]⟩)))), (12, (.c (.v (.string ⟨#[98, 111, 111, 108]⟩)))), (13, (.c (.v (.string ⟨#[102, 105, 120, 101, 100, 51, 50]⟩)))), (14, (.c (.v (.string ⟨#[102, 105, 120, 101, 100, 54, 52]⟩)))), (15, (.c (.v (.string ⟨#[115, 102, 105, 120, 101, 100, 51, 50]⟩)))), (16, (.c (.v (.string ⟨#[115, 102, 105, 120, 101, 100, 54, 52]⟩)))), (17, (.c (.v (.string ⟨#[115, 116, 114, 105, 110, 103]⟩)))), (18, (.c (.v (.string ⟨#[98, 121, 116, 101, 115]⟩)))), (19, (.c (.v (.string ⟨#[114, 101, 110, 97, 109, 101]⟩)))), (20, (.c (.v (.string ⟨#[114, 101, 110, 117, 109, 98, 101, 114]⟩)))), (21, (.c (.v (.string ⟨#[114, 101, 116, 121, 112, 101]⟩)))), (22, (.c (.v (.string ⟨#[115, 112, 108, 105, 116]⟩)))), (23, (.c (.v (.string ⟨#[106, 111, 105, 110]⟩)))), (24, (.c (.v (.string ⟨#[119, 114, 97, 112]⟩)))), (25, (.c (.v (.string ⟨#[117, 110, 119, 114, 97, 112]⟩)))), (26, (.c (.v (.string ⟨#[97, 100, 100]⟩)))), (27, (.c (.v (.string ⟨#[100, 114, 111, 112]⟩)))), (28, (.c (.v (.string ⟨#[116, 111]⟩)))), (29, (.c (.v (.string ⟨#[105, 110, 116, 111]⟩)))), (30, (.c (.v (.string ⟨#[97, 115]⟩)))), (31, (.c (.v (.string ⟨#[111, 102]⟩)))), (32, (.c (.v (.string ⟨#[100, 101, 102, 97, 117, 108, 116]⟩)))), (33, (.c (.v (.string ⟨#[116, 114, 117, 101]⟩)))), (34, (.c (.v (.string ⟨#[102, 97, 108, 115, 101]⟩))))]⟩,
  ⟨(some 0), none, .mv (.t 1)⟩]) (
  .ret)),
  [.t 0]⟩
def v_ref09_words : List Nat := []
set_option maxRecDepth 100000 in
theorem s_ref09_words (call : Eng.Call) (G : Nat → AV) (n : Nat) : denFE call G v_ref09_words n c_ref09_words [] =
 Xx call [] 0 (.nil 1) (fun x0 ox0 =>
 Xx call ox0 1 (.bsl 35 1 [(.v (.string ⟨#[]⟩))] [(0, (.c (.v (.string ⟨#[101, 110, 117, 109]⟩)))), (1, (.c (.v (.string ⟨#[109, 101, 115, 115, 97, 103, 101]⟩)))), (2, (.c (.v (.string ⟨#[111, 110, 101, 111, 102]⟩)))), (3, (.c (.v (.string ⟨#[114, 101, 112, 101, 97, 116, 101, 100]⟩)))), (4, (.c (.v (.string ⟨#[114, 101, 115, 101, 114, 118, 101, 100]⟩)))), (5, (.c (.v (.string ⟨#[108, 111, 111, 115, 101]⟩)))), (6, (.c (.v (.string ⟨#[105, 110, 116, 51, 50]⟩)))), (7, (.c (.v (.string ⟨#[105, 110, 116, 54, 52]⟩)))), (8, (.c (.v (.string ⟨#[117, 105, 110, 116, 51, 50]⟩)))), (9, (.c (.v (.string ⟨#[117, 105, 110, 116, 54, 52]⟩)))), (10, (.c (.v (.string ⟨#[115, 105, 110, 116, 51, 50]⟩)))), (11, (.c (.v (.string ⟨#[115, 105, 110, 116, 54, 52]⟩)))), (12, (.c (.v (.string ⟨#[98, 111, 111, 108]⟩)))), (13, (.c (.v (.string ⟨#[102, 105, 120, 101, 100, 51, 50]⟩)))), (14, (.c (.v (.string ⟨#[102, 105, 120, 101, 100, 54, 52]⟩)))), (15, (.c (.v (.string ⟨#[115, 102, 105, 120, 101, 100, 51, 50]⟩)))), (16, (.c (.v (.string ⟨#[115, 102, 105, 120, 101, 100, 54, 52]⟩)))), (17, (.c (.v (.string ⟨#[115, 116, 114, 105, 110, 103]⟩)))), (18, (.c (.v (.string ⟨#[98, 121, 116, 101, 115]⟩)))), (19, (.c (.v (.string ⟨#[114, 101, 110, 97, 109, 101]⟩)))), (20, (.c (.v (.string ⟨#[114, 101, 110, 117, 109, 98, 101, 114]⟩)))), (21, (.c (.v (.string ⟨#[114, 101, 116, 121, 112, 101]⟩)))), (22, (.c (.v (.string ⟨#[115, 112, 108, 105, 116]⟩)))), (23, (.c (.v (.string ⟨#[106, 111, 105, 110]⟩)))), (24, (.c (.v (.string ⟨#[119, 114, 97, 112]⟩)))), (25, (.c (.v (.string ⟨#[117, 110, 119, 114, 97, 112]⟩)))), (26, (.c (.v (.string ⟨#[97, 100, 100]⟩)))), (27, (.c (.v (.string ⟨#[100, 114, 111, 112]⟩)))), (28, (.c (.v (.string ⟨#[116, 111]⟩)))), (29, (.c (.v (.string ⟨#[105, 110, 116, 111]⟩)))), (30, (.c (.v (.string ⟨#[97, 115]⟩)))), (31, (.c (.v (.string ⟨#[111, 102]⟩)))), (32, (.c (.v (.string ⟨#[100, 101, 102, 97, 117, 108, 116]⟩)))), (33, (.c (.v (.string ⟨#[116, 114, 117, 101]⟩)))), (34, (.c (.v (.string ⟨#[102, 97, 108, 115, 101]⟩))))]) (fun x1 ox1 =>
 Xr ox1 [some x1]) ()) () := by kernel_rfl
def c_ref04_Field : CF := ⟨1, 17,
  .seq (.reg [] [
  ⟨(some 2), none, .mv (.c (.v (.bool false)))⟩]) (
  .seq (.reg [] [
  ⟨(some 3), none, .mv (.t 0)⟩,
  ⟨(some 4), none, .bin .geq (.t 3) (.c (.v (.int .i64 1)))⟩,
  ⟨(some 5), none, .mv (.t 4)⟩,
  ⟨(some 6), (some (5, true)), .mv (.t 0)⟩,
  ⟨(some 7), (some (5, true)), .bin .leq (.t 6) (.c (.v (.int .i64 536870911)))⟩,
  ⟨(some 8), none, .pick (.t 5) (.t 7) (.c (.v (.bool false)))⟩,
  ⟨(some 9), none, .mv (.t 8)⟩,
  ⟨(some 10), (some (9, true)), .mv (.t 0)⟩,
  ⟨(some 11), (some (9, true)), .bin .lss (.t 10) (.c (.v (.int .i64 19000)))⟩,
  ⟨(some 12), (some (9, true)), .mv (.t 11)⟩,
  ⟨(some 13), (some (12, false)), .mv (.t 0)⟩,
  ⟨(some 14), (some (12, false)), .bin .gtr (.t 13) (.c (.v (.int .i64 19999)))⟩,
  ⟨(some 15), (some (9, true)), .pick (.t 12) (.c (.v (.bool true))) (.t 14)⟩,
  ⟨(some 16), none, .pick (.t 9) (.t 15) (.c (.v (.bool false)))⟩,
  ⟨(some 2), none, .mv (.t 16)⟩]) (
  .ret)),
  [.t 2]⟩
def v_ref04_Field : List Nat := []
set_option maxRecDepth 100000 in
theorem s_ref04_Field (call : Eng.Call) (G : Nat → AV) (n : Nat) (x0 : AV) : denFE call G v_ref04_Field n c_ref04_Field [x0] =
 Xq (.bin .geq (.c x0) (.c (.v (.int .i64 1)))) (fun x1 =>
 Xgq x1 true (.mv (.c x0)) (fun x2 =>
 Xgq x1 true (.bin .leq (.c x2) (.c (.v (.int .i64 536870911)))) (fun x3 =>
 Xq (.pick (.c x1) (.c x3) (.c (.v (.bool false)))) (fun x4 =>
 Xgq x4 true (.mv (.c x0)) (fun x5 =>
 Xgq x4 true (.bin .lss (.c x5) (.c (.v (.int .i64 19000)))) (fun x6 =>
 Xgq x4 true (.mv (.c x6)) (fun x7 =>
 Xgq x7 false (.mv (.c x0)) (fun x8 =>
 Xgq x7 false (.bin .gtr (.c x8) (.c (.v (.int .i64 19999)))) (fun x9 =>
 Xgq x4 true (.pick (.c x7) (.c (.v (.bool true))) (.c x9)) (fun x10 =>
 Xq (.pick (.c x4) (.c x10) (.c (.v (.bool false)))) (fun x11 =>
 Xr [] [some x11]) ()) ()) ()) ()) ()) ()) ()) ()) ()) ()) () := by kernel_rfl
def c_ref11_Number : CF := ⟨1, 13,
  .seq (.reg [] [
  ⟨(some 2), none, .mv (.c (.v (.bool false)))⟩]) (
  .seq (.reg [] [
  ⟨(some 3), none, .mv (.t 0)⟩,
  ⟨(some 4), none, .call false i_ref11_Whole [(.t 3)]⟩,
  ⟨(some 5), none, .mv (.t 4)⟩,
  ⟨(some 6), (some (5, false)), .mv (.t 0)⟩,
  ⟨(some 7), (some (5, false)), .bin .eql (.t 6) (.c (.v (.int .i64 7)))⟩,
  ⟨(some 8), none, .pick (.t 5) (.c (.v (.bool true))) (.t 7)⟩,
  ⟨(some 9), none, .mv (.t 8)⟩,
  ⟨(some 10), (some (9, false)), .mv (.t 0)⟩,
  ⟨(some 11), (some (9, false)), .bin .eql (.t 10) (.c (.v (.int .i64 14)))⟩,
  ⟨(some 12), none, .pick (.t 9) (.c (.v (.bool true))) (.t 11)⟩,
  ⟨(some 2), none, .mv (.t 12)⟩]) (
  .ret)),
  [.t 2]⟩
def v_ref11_Number : List Nat := []
set_option maxRecDepth 100000 in
theorem s_ref11_Number (call : Eng.Call) (G : Nat → AV) (n : Nat) (x0 : AV) : denFE call G v_ref11_Number n c_ref11_Number [x0] =
 Xx call [] 4 (.call false i_ref11_Whole [(.c x0)]) (fun x1 ox1 =>
 Xgq x1 false (.mv (.c x0)) (fun x2 =>
 Xgq x1 false (.bin .eql (.c x2) (.c (.v (.int .i64 7)))) (fun x3 =>
 Xq (.pick (.c x1) (.c (.v (.bool true))) (.c x3)) (fun x4 =>
 Xgq x4 false (.mv (.c x0)) (fun x5 =>
 Xgq x4 false (.bin .eql (.c x5) (.c (.v (.int .i64 14)))) (fun x6 =>
 Xq (.pick (.c x4) (.c (.v (.bool true))) (.c x6)) (fun x7 =>
 Xr ox1 [some x7]) ()) ()) ()) ()) ()) ()) () := by kernel_rfl
def k_slices_IndexFunc_Lapi_Enum_api_Enum__0 : List Nat := [0, 1, 7, 8]
def c_slices_IndexFunc_Lapi_Enum_api_Enum__b0 : CC := .seq (.reg [] [
  ⟨(some 9), none, .bin .lss (.t 8) (.t 7)⟩]) (
  .seq (.cond (.t 9) (
  .skip) (
  .exit 0)) (
  .seq (.block 1 (
  .seq (.reg [] [
  ⟨(some 10), none, .mv (.t 8)⟩,
  ⟨(some 5), none, .mv (.t 10)⟩]) (
  .seq (.reg [] [
  ⟨(some 11), none, .mv (.t 1)⟩,
  ⟨(some 12), none, .mv (.t 0)⟩,
  ⟨(some 13), none, .mv (.t 5)⟩,
  ⟨(some 14), none, .ias 2 (.t 12) (.t 13)⟩,
  ⟨(some 15), none, .ld true 2 (.t 14)⟩,
  ⟨(some 16), none, .cal false (.t 11) [(.t 15)]⟩]) (
  .cond (.t 16) (
  .seq (.reg [] [
  ⟨(some 17), none, .mv (.t 5)⟩,
  ⟨(some 4), none, .mv (.t 17)⟩]) (
  .ret)) (
  .skip))))) (
  .reg [] [
  ⟨(some 18), none, .bin .add (.t 8) (.c (.v (.int .i64 1)))⟩,
  ⟨(some 8), none, .mv (.t 18)⟩])))
def c_slices_IndexFunc_Lapi_Enum_api_Enum__s0 : CC := .seq (.reg [] [
  ⟨(some 4), none, .mv (.c (.v (.int .i64 (-1))))⟩]) (
  .ret)
def c_slices_IndexFunc_Lapi_Enum_api_Enum_ : CF := ⟨2, 19,
  .seq (.reg [] [
  ⟨(some 4), none, .mv (.c (.v (.int .i64 0)))⟩]) (
  .seq (.seq (.reg [] [
  ⟨(some 6), none, .mv (.t 0)⟩,
  ⟨(some 7), none, .len false (.t 6)⟩,
  ⟨(some 8), none, .mv (.c (.v (.int .i64 0)))⟩]) (
  .block 0 (
  .loop k_slices_IndexFunc_Lapi_Enum_api_Enum__0 c_slices_IndexFunc_Lapi_Enum_api_Enum__b0))) c_slices_IndexFunc_Lapi_Enum_api_Enum__s0),
  [.t 4]⟩
def v_slices_IndexFunc_Lapi_Enum_api_Enum_ : List Nat := []
def R_slices_IndexFunc_Lapi_Enum_api_Enum__0 (call : Eng.Call) (G : Nat → AV) (n m0 : Nat) (o : Objs) (y0 y1 y7 y8 : AV) : Out := roundsE k_slices_IndexFunc_Lapi_Enum_api_Enum__0 (denE 19 call G v_slices_IndexFunc_Lapi_Enum_api_Enum_ n c_slices_IndexFunc_Lapi_Enum_api_Enum__b0) m0 [y0, y1, y7, y8] o (eBlock 0 (eSeq (denE 19 call G v_slices_IndexFunc_Lapi_Enum_api_Enum_ n c_slices_IndexFunc_Lapi_Enum_api_Enum__s0) (eEnd [.t 4])))
set_option maxRecDepth 100000 in
theorem R_slices_IndexFunc_Lapi_Enum_api_Enum__0_s (call : Eng.Call) (G : Nat → AV) (n m0 : Nat) (o : Objs) (y0 y1 y7 y8 : AV) : R_slices_IndexFunc_Lapi_Enum_api_Enum__0 call G n (m0 + 1) o y0 y1 y7 y8 =
 Xq (.bin .lss (.c y8) (.c y7)) (fun x3 =>
 Xc x3 (fun _ =>
 Xq (.ias 2 (.c y0) (.c y8)) (fun x4 =>
 Xx call o 15 (.ld true 2 (.c x4)) (fun x5 ox5 =>
 Xx call ox5 16 (.cal false (.c y1) [(.c x5)]) (fun x6 ox6 =>
 Xc x6 (fun _ =>
 Xr ox6 [some y8]) (fun _ =>
 Xq (.bin .add (.c y8) (.c (.v (.int .i64 1)))) (fun x7 =>
 R_slices_IndexFunc_Lapi_Enum_api_Enum__0 call G n m0 (maskO k_slices_IndexFunc_Lapi_Enum_api_Enum__0 ox6) (msk k_slices_IndexFunc_Lapi_Enum_api_Enum__0 y0) (msk k_slices_IndexFunc_Lapi_Enum_api_Enum__0 y1) (msk k_slices_IndexFunc_Lapi_Enum_api_Enum__0 y7) (msk k_slices_IndexFunc_Lapi_Enum_api_Enum__0 x7)) ()) () ()) ()) ()) ()) (fun _ =>
 Xr o [some (.v (.int .i64 (-1)))]) () ()) () := by kernel_rfl
set_option maxRecDepth 100000 in
theorem s_slices_IndexFunc_Lapi_Enum_api_Enum_ (call : Eng.Call) (G : Nat → AV) (n : Nat) (x0 x1 : AV) : denFE call G v_slices_IndexFunc_Lapi_Enum_api_Enum_ n c_slices_IndexFunc_Lapi_Enum_api_Enum_ [x0, x1] =
 Xq (.len false (.c x0)) (fun x2 =>
 R_slices_IndexFunc_Lapi_Enum_api_Enum__0 call G n n (maskO k_slices_IndexFunc_Lapi_Enum_api_Enum__0 []) (msk k_slices_IndexFunc_Lapi_Enum_api_Enum__0 x0) (msk k_slices_IndexFunc_Lapi_Enum_api_Enum__0 x1) (msk k_slices_IndexFunc_Lapi_Enum_api_Enum__0 x2) (msk k_slices_IndexFunc_Lapi_Enum_api_Enum__0 (.v (.int .i64 0)))) () := by kernel_rfl
def c_field_refers : CF := ⟨1, 9,
  .seq (.reg [] [
  ⟨(some 2), none, .mv (.c (.v (.bool false)))⟩]) (
  .seq (.reg [] [
  ⟨(some 3), none, .mv (.t 0)⟩,
  ⟨(some 4), none, .bin .eql (.t 3) (.c (.v (.int .i64 14)))⟩,
  ⟨(some 5), none, .mv (.t 4)⟩,
  ⟨(some 6), (some (5, false)), .mv (.t 0)⟩,
  ⟨(some 7), (some (5, false)), .bin .eql (.t 6) (.c (.v (.int .i64 15)))⟩,
  ⟨(some 8), none, .pick (.t 5) (.c (.v (.bool true))) (.t 7)⟩,
  ⟨(some 2), none, .mv (.t 8)⟩]) (
  .ret)),
  [.t 2]⟩
def v_field_refers : List Nat := []
set_option maxRecDepth 100000 in
theorem s_field_refers (call : Eng.Call) (G : Nat → AV) (n : Nat) (x0 : AV) : denFE call G v_field_refers n c_field_refers [x0] =
 Xq (.bin .eql (.c x0) (.c (.v (.int .i64 14)))) (fun x1 =>
 Xgq x1 false (.mv (.c x0)) (fun x2 =>
 Xgq x1 false (.bin .eql (.c x2) (.c (.v (.int .i64 15)))) (fun x3 =>
 Xq (.pick (.c x1) (.c (.v (.bool true))) (.c x3)) (fun x4 =>
 Xr [] [some x4]) ()) ()) ()) () := by kernel_rfl
def c_scalar_kind : CF := ⟨1, 12,
  .seq (.reg [] [
  ⟨(some 2), none, .mv (.c (.v (.int .i64 0)))⟩]) (
  .seq (.seq (.reg [] [
  ⟨(some 3), none, .mv (.t 0)⟩,
  ⟨(some 4), none, .bin .lss (.t 3) (.c (.v (.int .i64 0)))⟩,
  ⟨(some 5), none, .mv (.t 4)⟩,
  ⟨(some 6), (some (5, false)), .mv (.t 0)⟩,
  ⟨(some 7), (some (5, false)), .bin .geq (.t 6) (.c (.v (.int .i64 16)))⟩,
  ⟨(some 8), none, .pick (.t 5) (.c (.v (.bool true))) (.t 7)⟩]) (
  .cond (.t 8) (
  .seq (.reg [] [
  ⟨(some 2), none, .mv (.c (.v (.int .i64 0)))⟩]) (
  .ret)) (
  .skip))) (
  .seq (.reg [] [
  ⟨(some 9), none, .build [(.v (.int .i64 0)), (.v (.int .i64 0)), (.v (.int .i64 0)), (.v (.int .i64 0)), (.v (.int .i64 0)), (.v (.int .i64 0)), (.v (.int .i64 0)), (.v (.int .i64 0)), (.v (.int .i64 0)), (.v (.int .i64 0)), (.v (.int .i64 0)), (.v (.int .i64 0)), (.v (.int .i64 0)), (.v (.int .i64 0)), (.v (.int .i64 0)), (.v (.int .i64 0))] [(1, 1, (.c (.v (.int .i64 7)))), (2, 1, (.c (.v (.int .i64 15)))), (3, 1, (.c (.v (.int .i64 3)))), (4, 1, (.c (.v (.int .i64 11)))), (5, 1, (.c (.v (.int .i64 7)))), (6, 1, (.c (.v (.int .i64 15)))), (7, 1, (.c (.v (.int .i64 2)))), (8, 1, (.c (.v (.int .i64 3)))), (9, 1, (.c (.v (.int .i64 11)))), (10, 1, (.c (.v (.int .i64 7)))), (11, 1, (.c (.v (.int .i64 15)))), (14, 1, (.c (.v (.int .i64 6))))]⟩,
  ⟨(some 10), none, .mv (.t 0)⟩,
  ⟨(some 11), none, .ixa 16 1 false (.t 9) (.t 10)⟩,
  ⟨(some 2), none, .mv (.t 11)⟩]) (
  .ret))),
  [.t 2]⟩
def v_scalar_kind : List Nat := []
set_option maxRecDepth 100000 in
theorem s_scalar_kind (call : Eng.Call) (G : Nat → AV) (n : Nat) (x0 : AV) : denFE call G v_scalar_kind n c_scalar_kind [x0] =
 Xq (.bin .lss (.c x0) (.c (.v (.int .i64 0)))) (fun x1 =>
 Xgq x1 false (.mv (.c x0)) (fun x2 =>
 Xgq x1 false (.bin .geq (.c x2) (.c (.v (.int .i64 16)))) (fun x3 =>
 Xq (.pick (.c x1) (.c (.v (.bool true))) (.c x3)) (fun x4 =>
 Xc x4 (fun _ =>
 Xr [] [some (.v (.int .i64 0))]) (fun _ =>
 Xq (.build [(.v (.int .i64 0)), (.v (.int .i64 0)), (.v (.int .i64 0)), (.v (.int .i64 0)), (.v (.int .i64 0)), (.v (.int .i64 0)), (.v (.int .i64 0)), (.v (.int .i64 0)), (.v (.int .i64 0)), (.v (.int .i64 0)), (.v (.int .i64 0)), (.v (.int .i64 0)), (.v (.int .i64 0)), (.v (.int .i64 0)), (.v (.int .i64 0)), (.v (.int .i64 0))] [(1, 1, (.c (.v (.int .i64 7)))), (2, 1, (.c (.v (.int .i64 15)))), (3, 1, (.c (.v (.int .i64 3)))), (4, 1, (.c (.v (.int .i64 11)))), (5, 1, (.c (.v (.int .i64 7)))), (6, 1, (.c (.v (.int .i64 15)))), (7, 1, (.c (.v (.int .i64 2)))), (8, 1, (.c (.v (.int .i64 3)))), (9, 1, (.c (.v (.int .i64 11)))), (10, 1, (.c (.v (.int .i64 7)))), (11, 1, (.c (.v (.int .i64 15)))), (14, 1, (.c (.v (.int .i64 6))))]) (fun x5 =>
 Xq (.ixa 16 1 false (.c x5) (.c x0)) (fun x6 =>
 Xr [] [some x6]) ()) ()) () ()) ()) ()) ()) () := by kernel_rfl
def c_tag_number : CF := ⟨1, 9,
  .seq (.reg [] [
  ⟨(some 2), none, .mv (.c (.v (.bool false)))⟩]) (
  .seq (.reg [] [
  ⟨(some 3), none, .mv (.t 0)⟩,
  ⟨(some 4), none, .bin .geq (.t 3) (.c (.v (.int .i64 1)))⟩,
  ⟨(some 5), none, .mv (.t 4)⟩,
  ⟨(some 6), (some (5, true)), .mv (.t 0)⟩,
  ⟨(some 7), (some (5, true)), .bin .leq (.t 6) (.c (.v (.int .i64 536870911)))⟩,
  ⟨(some 8), none, .pick (.t 5) (.t 7) (.c (.v (.bool false)))⟩,
  ⟨(some 2), none, .mv (.t 8)⟩]) (
  .ret)),
  [.t 2]⟩
def v_tag_number : List Nat := []
set_option maxRecDepth 100000 in
theorem s_tag_number (call : Eng.Call) (G : Nat → AV) (n : Nat) (x0 : AV) : denFE call G v_tag_number n c_tag_number [x0] =
 Xq (.bin .geq (.c x0) (.c (.v (.int .i64 1)))) (fun x1 =>
 Xgq x1 true (.mv (.c x0)) (fun x2 =>
 Xgq x1 true (.bin .leq (.c x2) (.c (.v (.int .i64 536870911)))) (fun x3 =>
 Xq (.pick (.c x1) (.c x3) (.c (.v (.bool false)))) (fun x4 =>
 Xr [] [some x4]) ()) ()) ()) () := by kernel_rfl
def k_slices_IndexFunc_Lint_int__0 : List Nat := [0, 1, 7, 8]
def c_slices_IndexFunc_Lint_int__b0 : CC := .seq (.reg [] [
  ⟨(some 9), none, .bin .lss (.t 8) (.t 7)⟩]) (
  .seq (.cond (.t 9) (
  .skip) (
  .exit 0)) (
  .seq (.block 1 (
  .seq (.reg [] [
  ⟨(some 10), none, .mv (.t 8)⟩,
  ⟨(some 5), none, .mv (.t 10)⟩]) (
  .seq (.reg [] [
  ⟨(some 11), none, .mv (.t 1)⟩,
  ⟨(some 12), none, .mv (.t 0)⟩,
  ⟨(some 13), none, .mv (.t 5)⟩,
  ⟨(some 14), none, .ias 1 (.t 12) (.t 13)⟩,
  ⟨(some 15), none, .ld false 1 (.t 14)⟩,
  ⟨(some 16), none, .cal false (.t 11) [(.t 15)]⟩]) (
  .cond (.t 16) (
  .seq (.reg [] [
  ⟨(some 17), none, .mv (.t 5)⟩,
  ⟨(some 4), none, .mv (.t 17)⟩]) (
  .ret)) (
  .skip))))) (
  .reg [] [
  ⟨(some 18), none, .bin .add (.t 8) (.c (.v (.int .i64 1)))⟩,
  ⟨(some 8), none, .mv (.t 18)⟩])))
def c_slices_IndexFunc_Lint_int__s0 : CC := .seq (.reg [] [
  ⟨(some 4), none, .mv (.c (.v (.int .i64 (-1))))⟩]) (
  .ret)
def c_slices_IndexFunc_Lint_int_ : CF := ⟨2, 19,
  .seq (.reg [] [
  ⟨(some 4), none, .mv (.c (.v (.int .i64 0)))⟩]) (
  .seq (.seq (.reg [] [
  ⟨(some 6), none, .mv (.t 0)⟩,
  ⟨(some 7), none, .len false (.t 6)⟩,
  ⟨(some 8), none, .mv (.c (.v (.int .i64 0)))⟩]) (
  .block 0 (
  .loop k_slices_IndexFunc_Lint_int__0 c_slices_IndexFunc_Lint_int__b0))) c_slices_IndexFunc_Lint_int__s0),
  [.t 4]⟩
def v_slices_IndexFunc_Lint_int_ : List Nat := []
def R_slices_IndexFunc_Lint_int__0 (call : Eng.Call) (G : Nat → AV) (n m0 : Nat) (o : Objs) (y0 y1 y7 y8 : AV) : Out := roundsE k_slices_IndexFunc_Lint_int__0 (denE 19 call G v_slices_IndexFunc_Lint_int_ n c_slices_IndexFunc_Lint_int__b0) m0 [y0, y1, y7, y8] o (eBlock 0 (eSeq (denE 19 call G v_slices_IndexFunc_Lint_int_ n c_slices_IndexFunc_Lint_int__s0) (eEnd [.t 4])))
set_option maxRecDepth 100000 in
theorem R_slices_IndexFunc_Lint_int__0_s (call : Eng.Call) (G : Nat → AV) (n m0 : Nat) (o : Objs) (y0 y1 y7 y8 : AV) : R_slices_IndexFunc_Lint_int__0 call G n (m0 + 1) o y0 y1 y7 y8 =
 Xq (.bin .lss (.c y8) (.c y7)) (fun x3 =>
 Xc x3 (fun _ =>
 Xq (.ias 1 (.c y0) (.c y8)) (fun x4 =>
 Xx call o 15 (.ld false 1 (.c x4)) (fun x5 ox5 =>
 Xx call ox5 16 (.cal false (.c y1) [(.c x5)]) (fun x6 ox6 =>
 Xc x6 (fun _ =>
 Xr ox6 [some y8]) (fun _ =>
 Xq (.bin .add (.c y8) (.c (.v (.int .i64 1)))) (fun x7 =>
 R_slices_IndexFunc_Lint_int__0 call G n m0 (maskO k_slices_IndexFunc_Lint_int__0 ox6) (msk k_slices_IndexFunc_Lint_int__0 y0) (msk k_slices_IndexFunc_Lint_int__0 y1) (msk k_slices_IndexFunc_Lint_int__0 y7) (msk k_slices_IndexFunc_Lint_int__0 x7)) ()) () ()) ()) ()) ()) (fun _ =>
 Xr o [some (.v (.int .i64 (-1)))]) () ()) () := by kernel_rfl
set_option maxRecDepth 100000 in
theorem s_slices_IndexFunc_Lint_int_ (call : Eng.Call) (G : Nat → AV) (n : Nat) (x0 x1 : AV) : denFE call G v_slices_IndexFunc_Lint_int_ n c_slices_IndexFunc_Lint_int_ [x0, x1] =
 Xq (.len false (.c x0)) (fun x2 =>
 R_slices_IndexFunc_Lint_int__0 call G n n (maskO k_slices_IndexFunc_Lint_int__0 []) (msk k_slices_IndexFunc_Lint_int__0 x0) (msk k_slices_IndexFunc_Lint_int__0 x1) (msk k_slices_IndexFunc_Lint_int__0 x2) (msk k_slices_IndexFunc_Lint_int__0 (.v (.int .i64 0)))) () := by kernel_rfl
def c_ref11_Whole : CF := ⟨1, 17,
  .seq (.reg [] [
  ⟨(some 2), none, .mv (.c (.v (.bool false)))⟩]) (
  .seq (.reg [] [
  ⟨(some 3), none, .mv (.t 0)⟩,
  ⟨(some 4), none, .bin .geq (.t 3) (.c (.v (.int .i64 1)))⟩,
  ⟨(some 5), none, .mv (.t 4)⟩,
  ⟨(some 6), (some (5, true)), .mv (.t 0)⟩,
  ⟨(some 7), (some (5, true)), .bin .leq (.t 6) (.c (.v (.int .i64 6)))⟩,
  ⟨(some 8), none, .pick (.t 5) (.t 7) (.c (.v (.bool false)))⟩,
  ⟨(some 9), none, .mv (.t 8)⟩,
  ⟨(some 10), (some (9, false)), .mv (.t 0)⟩,
  ⟨(some 11), (some (9, false)), .bin .geq (.t 10) (.c (.v (.int .i64 8)))⟩,
  ⟨(some 12), (some (9, false)), .mv (.t 11)⟩,
  ⟨(some 13), (some (12, true)), .mv (.t 0)⟩,
  ⟨(some 14), (some (12, true)), .bin .leq (.t 13) (.c (.v (.int .i64 11)))⟩,
  ⟨(some 15), (some (9, false)), .pick (.t 12) (.t 14) (.c (.v (.bool false)))⟩,
  ⟨(some 16), none, .pick (.t 9) (.c (.v (.bool true))) (.t 15)⟩,
  ⟨(some 2), none, .mv (.t 16)⟩]) (
  .ret)),
  [.t 2]⟩
def v_ref11_Whole : List Nat := []
set_option maxRecDepth 100000 in
theorem s_ref11_Whole (call : Eng.Call) (G : Nat → AV) (n : Nat) (x0 : AV) : denFE call G v_ref11_Whole n c_ref11_Whole [x0] =
 Xq (.bin .geq (.c x0) (.c (.v (.int .i64 1)))) (fun x1 =>
 Xgq x1 true (.mv (.c x0)) (fun x2 =>
 Xgq x1 true (.bin .leq (.c x2) (.c (.v (.int .i64 6)))) (fun x3 =>
 Xq (.pick (.c x1) (.c x3) (.c (.v (.bool false)))) (fun x4 =>
 Xgq x4 false (.mv (.c x0)) (fun x5 =>
 Xgq x4 false (.bin .geq (.c x5) (.c (.v (.int .i64 8)))) (fun x6 =>
 Xgq x4 false (.mv (.c x6)) (fun x7 =>
 Xgq x7 true (.mv (.c x0)) (fun x8 =>
 Xgq x7 true (.bin .leq (.c x8) (.c (.v (.int .i64 11)))) (fun x9 =>
 Xgq x4 false (.pick (.c x7) (.c x9) (.c (.v (.bool false)))) (fun x10 =>
 Xq (.pick (.c x4) (.c (.v (.bool true))) (.c x10)) (fun x11 =>
 Xr [] [some x11]) ()) ()) ()) ()) ()) ()) ()) ()) ()) ()) () := by kernel_rfl
end Go.Proofs.YtmhdapjmndfkgaaGreat.Sk
