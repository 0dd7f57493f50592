-- Printed by myprint.py, a program of this session's repo, over the kit's printer; hand texts of the session stand in it
import Derived.Test.YticmmpiffekbiaaDoorPx0
namespace Go.Proofs.YticmmpiffekbiaaDoor.Px
open Go.RowKit Go.Proofs.YticmmpiffekbiaaDoorW.PrintWords Go.Proofs.YticmmpiffekbiaaDoorW.PrintLast Go.Proofs.YticmmpiffekbiaaDoorW.PrintMore
attribute [local go_sem] max2_int min2_int max_two min_two max_three min_three max_four min_four   -- for this text's walks alone
set_option linter.unusedVariables false
set_option linter.unusedSimpArgs false

/-! ### ident_word: function 72 -/
mutual
def ident_word.j0 : Nat → ByteArray → Bool → Option (Bool)
  | 0, _, _ => none
  | k + 1, x3, x4 => if x4 = true then (some true) else (if x3.toList = ([105, 110, 116, 51, 50] : List UInt8) then (ident_word.j1 k x3 (x3.toList == ([105, 110, 116, 51, 50] : List UInt8))) else (if x3.toList = ([105, 110, 116, 54, 52] : List UInt8) then (ident_word.j1 k x3 (x3.toList == ([105, 110, 116, 54, 52] : List UInt8))) else (if x3.toList = ([117, 105, 110, 116, 51, 50] : List UInt8) then (ident_word.j1 k x3 (x3.toList == ([117, 105, 110, 116, 51, 50] : List UInt8))) else (if x3.toList = ([117, 105, 110, 116, 54, 52] : List UInt8) then (ident_word.j1 k x3 (x3.toList == ([117, 105, 110, 116, 54, 52] : List UInt8))) else (if x3.toList = ([115, 105, 110, 116, 51, 50] : List UInt8) then (ident_word.j1 k x3 (x3.toList == ([115, 105, 110, 116, 51, 50] : List UInt8))) else (if x3.toList = ([115, 105, 110, 116, 54, 52] : List UInt8) then (ident_word.j1 k x3 (x3.toList == ([115, 105, 110, 116, 54, 52] : List UInt8))) else (ident_word.j1 k x3 (x3.toList == ([98, 111, 111, 108] : List UInt8)))))))))
def ident_word.j1 : Nat → ByteArray → Bool → Option (Bool)
  | 0, _, _ => none
  | k + 1, x3, x11 => if x11 = true then (some true) else (if x3.toList = ([102, 105, 120, 101, 100, 51, 50] : List UInt8) then (ident_word.j2 k x3 (x3.toList == ([102, 105, 120, 101, 100, 51, 50] : List UInt8))) else (if x3.toList = ([102, 105, 120, 101, 100, 54, 52] : List UInt8) then (ident_word.j2 k x3 (x3.toList == ([102, 105, 120, 101, 100, 54, 52] : List UInt8))) else (if x3.toList = ([115, 102, 105, 120, 101, 100, 51, 50] : List UInt8) then (ident_word.j2 k x3 (x3.toList == ([115, 102, 105, 120, 101, 100, 51, 50] : List UInt8))) else (if x3.toList = ([115, 102, 105, 120, 101, 100, 54, 52] : List UInt8) then (ident_word.j2 k x3 (x3.toList == ([115, 102, 105, 120, 101, 100, 54, 52] : List UInt8))) else (if x3.toList = ([115, 116, 114, 105, 110, 103] : List UInt8) then (ident_word.j2 k x3 (x3.toList == ([115, 116, 114, 105, 110, 103] : List UInt8))) else (ident_word.j2 k x3 (x3.toList == ([98, 121, 116, 101, 115] : List UInt8))))))))
def ident_word.j2 : Nat → ByteArray → Bool → Option (Bool)
  | 0, _, _ => none
  | k + 1, x3, x19 => if x19 = true then (some true) else (if x3.toList = ([114, 101, 110, 97, 109, 101] : List UInt8) then (ident_word.j3 k x3 (x3.toList == ([114, 101, 110, 97, 109, 101] : List UInt8))) else (if x3.toList = ([114, 101, 110, 117, 109, 98, 101, 114] : List UInt8) then (ident_word.j3 k x3 (x3.toList == ([114, 101, 110, 117, 109, 98, 101, 114] : List UInt8))) else (if x3.toList = ([114, 101, 116, 121, 112, 101] : List UInt8) then (ident_word.j3 k x3 (x3.toList == ([114, 101, 116, 121, 112, 101] : List UInt8))) else (if x3.toList = ([115, 112, 108, 105, 116] : List UInt8) then (ident_word.j3 k x3 (x3.toList == ([115, 112, 108, 105, 116] : List UInt8))) else (if x3.toList = ([106, 111, 105, 110] : List UInt8) then (ident_word.j3 k x3 (x3.toList == ([106, 111, 105, 110] : List UInt8))) else (if x3.toList = ([119, 114, 97, 112] : List UInt8) then (ident_word.j3 k x3 (x3.toList == ([119, 114, 97, 112] : List UInt8))) else (if x3.toList = ([117, 110, 119, 114, 97, 112] : List UInt8) then (ident_word.j3 k x3 (x3.toList == ([117, 110, 119, 114, 97, 112] : List UInt8))) else (if x3.toList = ([97, 100, 100] : List UInt8) then (ident_word.j3 k x3 (x3.toList == ([97, 100, 100] : List UInt8))) else (ident_word.j3 k x3 (x3.toList == ([100, 114, 111, 112] : List UInt8)))))))))))
def ident_word.j3 : Nat → ByteArray → Bool → Option (Bool)
  | 0, _, _ => none
  | k + 1, x3, x26 => if x26 = true then (some true) else (if x3.toList = ([116, 111] : List UInt8) then (some true) else (if x3.toList = ([105, 110, 116, 111] : List UInt8) then (some true) else (if x3.toList = ([97, 115] : List UInt8) then (some true) else (if x3.toList = ([111, 102] : List UInt8) then (some true) else (if x3.toList = ([100, 101, 102, 97, 117, 108, 116] : List UInt8) then (some true) else (if x3.toList = ([116, 114, 117, 101] : List UInt8) then (some true) else (if x3.toList = ([102, 97, 108, 115, 101] : List UInt8) then (some true) else (some false))))))))
end
def ident_word.f (k : Nat) (a0 : ByteArray) : Option (Bool) := if a0.toList = ([101, 110, 117, 109] : List UInt8) then (ident_word.j0 k a0 (a0.toList == ([101, 110, 117, 109] : List UInt8))) else (if a0.toList = ([109, 101, 115, 115, 97, 103, 101] : List UInt8) then (ident_word.j0 k a0 (a0.toList == ([109, 101, 115, 115, 97, 103, 101] : List UInt8))) else (if a0.toList = ([111, 110, 101, 111, 102] : List UInt8) then (ident_word.j0 k a0 (a0.toList == ([111, 110, 101, 111, 102] : List UInt8))) else (if a0.toList = ([114, 101, 112, 101, 97, 116, 101, 100] : List UInt8) then (ident_word.j0 k a0 (a0.toList == ([114, 101, 112, 101, 97, 116, 101, 100] : List UInt8))) else (if a0.toList = ([114, 101, 115, 101, 114, 118, 101, 100] : List UInt8) then (ident_word.j0 k a0 (a0.toList == ([114, 101, 115, 101, 114, 118, 101, 100] : List UInt8))) else (ident_word.j0 k a0 (a0.toList == ([108, 111, 111, 115, 101] : List UInt8)))))))
theorem ident_word.mono_l : ∀ k, (∀ y0 y1, LeO (ident_word.j0 k y0 y1) (ident_word.j0 (k + 1) y0 y1)) ∧ (∀ y0 y1, LeO (ident_word.j1 k y0 y1) (ident_word.j1 (k + 1) y0 y1)) ∧ (∀ y0 y1, LeO (ident_word.j2 k y0 y1) (ident_word.j2 (k + 1) y0 y1)) ∧ (∀ y0 y1, LeO (ident_word.j3 k y0 y1) (ident_word.j3 (k + 1) y0 y1))
  | 0 => ⟨fun _ _ r h => by simp [ident_word.j0] at h, fun _ _ r h => by simp [ident_word.j1] at h, fun _ _ r h => by simp [ident_word.j2] at h, fun _ _ r h => by simp [ident_word.j3] at h⟩
  | k + 1 => by
    obtain ⟨ih0, ih1, ih2, ih3⟩ := ident_word.mono_l k
    refine ⟨?_, ?_, ?_, ?_⟩
    · intro y0 y1
      unfold ident_word.j0
      repeat' first
      | (with_reducible exact ih0 _ _)
      | (with_reducible exact ih1 _ _)
      | (with_reducible exact ih2 _ _)
      | (with_reducible exact ih3 _ _)
      | (with_reducible exact LeO.refl _)
      | (with_reducible exact LeO.none _)
      | (with_reducible refine LeO.ite ?_ ?_)
      | (with_reducible refine LeO.bind ?_ (fun _ => ?_))
      | exact ih0 _ _
      | exact ih1 _ _
      | exact ih2 _ _
      | exact ih3 _ _
      | exact LeO.none _
      | refine LeO.ite ?_ ?_
      | refine LeO.bind ?_ (fun _ => ?_)
    · intro y0 y1
      unfold ident_word.j1
      repeat' first
      | (with_reducible exact ih0 _ _)
      | (with_reducible exact ih1 _ _)
      | (with_reducible exact ih2 _ _)
      | (with_reducible exact ih3 _ _)
      | (with_reducible exact LeO.refl _)
      | (with_reducible exact LeO.none _)
      | (with_reducible refine LeO.ite ?_ ?_)
      | (with_reducible refine LeO.bind ?_ (fun _ => ?_))
      | exact ih0 _ _
      | exact ih1 _ _
      | exact ih2 _ _
      | exact ih3 _ _
      | exact LeO.none _
      | refine LeO.ite ?_ ?_
      | refine LeO.bind ?_ (fun _ => ?_)
    · intro y0 y1
      unfold ident_word.j2
      repeat' first
      | (with_reducible exact ih0 _ _)
      | (with_reducible exact ih1 _ _)
      | (with_reducible exact ih2 _ _)
      | (with_reducible exact ih3 _ _)
      | (with_reducible exact LeO.refl _)
      | (with_reducible exact LeO.none _)
      | (with_reducible refine LeO.ite ?_ ?_)
      | (with_reducible refine LeO.bind ?_ (fun _ => ?_))
      | exact ih0 _ _
      | exact ih1 _ _
      | exact ih2 _ _
      | exact ih3 _ _
      | exact LeO.none _
      | refine LeO.ite ?_ ?_
      | refine LeO.bind ?_ (fun _ => ?_)
    · intro y0 y1
      unfold ident_word.j3
      repeat' first
      | (with_reducible exact ih0 _ _)
      | (with_reducible exact ih1 _ _)
      | (with_reducible exact ih2 _ _)
      | (with_reducible exact ih3 _ _)
      | (with_reducible exact LeO.refl _)
      | (with_reducible exact LeO.none _)
      | (with_reducible refine LeO.ite ?_ ?_)
      | (with_reducible refine LeO.bind ?_ (fun _ => ?_))
      | exact ih0 _ _
      | exact ih1 _ _
      | exact ih2 _ _
      | exact ih3 _ _
      | exact LeO.none _
      | refine LeO.ite ?_ ?_
      | refine LeO.bind ?_ (fun _ => ?_)
theorem ident_word.mono : ∀ a0 k, LeO (ident_word.f k a0) (ident_word.f (k + 1) a0) := by
  intro a0 k
  obtain ⟨ih0, ih1, ih2, ih3⟩ := ident_word.mono_l k
  unfold ident_word.f
  repeat' first
      | (with_reducible exact ih0 _ _)
      | (with_reducible exact ih1 _ _)
      | (with_reducible exact ih2 _ _)
      | (with_reducible exact ih3 _ _)
      | (with_reducible exact LeO.refl _)
      | (with_reducible exact LeO.none _)
      | (with_reducible refine LeO.ite ?_ ?_)
      | (with_reducible refine LeO.bind ?_ (fun _ => ?_))
      | exact ih0 _ _
      | exact ih1 _ _
      | exact ih2 _ _
      | exact ih3 _ _
      | exact LeO.none _
      | refine LeO.ite ?_ ?_
      | refine LeO.bind ?_ (fun _ => ?_)
set_option maxHeartbeats 8000000 in
set_option maxRecDepth 100000 in
theorem ident_word.calls (k : Nat) (a0 : ByteArray) (r : Bool) (w : World) (h : ident_word.f k a0 = some r) :
    Calls Tryd.prog 72 #[.string a0] w fun e w' => e = .returned (.bool r) ∧ Drawn0 w w' := by
  have H : (if a0.toList = ([101, 110, 117, 109] : List UInt8) then (ident_word.j0 k a0 (a0.toList == ([101, 110, 117, 109] : List UInt8))) else (if a0.toList = ([109, 101, 115, 115, 97, 103, 101] : List UInt8) then (ident_word.j0 k a0 (a0.toList == ([109, 101, 115, 115, 97, 103, 101] : List UInt8))) else (if a0.toList = ([111, 110, 101, 111, 102] : List UInt8) then (ident_word.j0 k a0 (a0.toList == ([111, 110, 101, 111, 102] : List UInt8))) else (if a0.toList = ([114, 101, 112, 101, 97, 116, 101, 100] : List UInt8) then (ident_word.j0 k a0 (a0.toList == ([114, 101, 112, 101, 97, 116, 101, 100] : List UInt8))) else (if a0.toList = ([114, 101, 115, 101, 114, 118, 101, 100] : List UInt8) then (ident_word.j0 k a0 (a0.toList == ([114, 101, 115, 101, 114, 118, 101, 100] : List UInt8))) else (ident_word.j0 k a0 (a0.toList == ([108, 111, 111, 115, 101] : List UInt8)))))))) = some r := h
  clear h
  have HC2 := Aside0.mk H
  clear H
  go_enter Tryd.func72, Tryd.ntmps72
  go_upto_if 4 with (fail)
  go_cut [4] (fun v4 wc => ∃ (kq : Nat) (x4_1 : Bool), v4 = .bool x4_1 ∧ Aside0 (ident_word.j0 kq a0 x4_1 = some r) ∧ Aside0 (kq ≤ k) ∧ Drawn0 w wc)
  case first =>
    have H := HC2.out
    clear HC2
    by_cases c3 : a0.toList = ([101, 110, 117, 109] : List UInt8)
    · rw [if_pos c3] at H
      have c3b0 : (a0.toList == ([101, 110, 117, 109] : List UInt8)) = true := beq_iff_eq.mpr c3
      have c3b1 : (a0.toList != ([101, 110, 117, 109] : List UInt8)) = false := bne_eq_false_iff_eq.mpr c3
      clear c3
      (first | rw [c3b0] | (simp only [i64_w, i32_w]; rw [c3b0]) | skip)
      have H' := Aside0.mk H
      clear H
      go_wp2
      go_meet
      case rel => exact ⟨_, ((a0.toList == ([101, 110, 117, 109] : List UInt8))), (by first | rfl | (simp; done) | (simp [*]; done) | (simp [isEmpty_bne]; done) | exact isEmpty_bne _ | exact isEmpty_bne' _), H', ⟨by first | omega | exact Nat.le_refl _⟩, by repeat (first | exact Drawn0.refl _ | apply Drawn0.step)⟩
    · rw [if_neg c3] at H
      have c3b0 : (a0.toList == ([101, 110, 117, 109] : List UInt8)) = false := beq_eq_false_iff_ne.mpr c3
      have c3b1 : (a0.toList != ([101, 110, 117, 109] : List UInt8)) = true := bne_iff_ne.mpr c3
      (first | rw [c3b0] | (simp only [i64_w, i32_w]; rw [c3b0]) | skip)
      by_cases c4 : a0.toList = ([109, 101, 115, 115, 97, 103, 101] : List UInt8)
      · rw [if_pos c4] at H
        have c4b0 : (a0.toList == ([109, 101, 115, 115, 97, 103, 101] : List UInt8)) = true := beq_iff_eq.mpr c4
        have c4b1 : (a0.toList != ([109, 101, 115, 115, 97, 103, 101] : List UInt8)) = false := bne_eq_false_iff_eq.mpr c4
        clear c4
        have H' := Aside0.mk H
        clear H
        go_wp2
        go_meet
        case rel => exact ⟨_, ((a0.toList == ([109, 101, 115, 115, 97, 103, 101] : List UInt8))), (by first | rfl | (simp; done) | (simp [*]; done) | (simp [isEmpty_bne]; done) | exact isEmpty_bne _ | exact isEmpty_bne' _), H', ⟨by first | omega | exact Nat.le_refl _⟩, by repeat (first | exact Drawn0.refl _ | apply Drawn0.step)⟩
      · rw [if_neg c4] at H
        have c4b0 : (a0.toList == ([109, 101, 115, 115, 97, 103, 101] : List UInt8)) = false := beq_eq_false_iff_ne.mpr c4
        have c4b1 : (a0.toList != ([109, 101, 115, 115, 97, 103, 101] : List UInt8)) = true := bne_iff_ne.mpr c4
        by_cases c5 : a0.toList = ([111, 110, 101, 111, 102] : List UInt8)
        · rw [if_pos c5] at H
          have c5b0 : (a0.toList == ([111, 110, 101, 111, 102] : List UInt8)) = true := beq_iff_eq.mpr c5
          have c5b1 : (a0.toList != ([111, 110, 101, 111, 102] : List UInt8)) = false := bne_eq_false_iff_eq.mpr c5
          clear c5
          have H' := Aside0.mk H
          clear H
          go_wp2
          go_meet
          case rel => exact ⟨_, ((a0.toList == ([111, 110, 101, 111, 102] : List UInt8))), (by first | rfl | (simp; done) | (simp [*]; done) | (simp [isEmpty_bne]; done) | exact isEmpty_bne _ | exact isEmpty_bne' _), H', ⟨by first | omega | exact Nat.le_refl _⟩, by repeat (first | exact Drawn0.refl _ | apply Drawn0.step)⟩
        · rw [if_neg c5] at H
          have c5b0 : (a0.toList == ([111, 110, 101, 111, 102] : List UInt8)) = false := beq_eq_false_iff_ne.mpr c5
          have c5b1 : (a0.toList != ([111, 110, 101, 111, 102] : List UInt8)) = true := bne_iff_ne.mpr c5
          by_cases c6 : a0.toList = ([114, 101, 112, 101, 97, 116, 101, 100] : List UInt8)
          · rw [if_pos c6] at H
            have c6b0 : (a0.toList == ([114, 101, 112, 101, 97, 116, 101, 100] : List UInt8)) = true := beq_iff_eq.mpr c6
            have c6b1 : (a0.toList != ([114, 101, 112, 101, 97, 116, 101, 100] : List UInt8)) = false := bne_eq_false_iff_eq.mpr c6
            clear c6
            have H' := Aside0.mk H
            clear H
            go_wp2
            go_meet
            case rel => exact ⟨_, ((a0.toList == ([114, 101, 112, 101, 97, 116, 101, 100] : List UInt8))), (by first | rfl | (simp; done) | (simp [*]; done) | (simp [isEmpty_bne]; done) | exact isEmpty_bne _ | exact isEmpty_bne' _), H', ⟨by first | omega | exact Nat.le_refl _⟩, by repeat (first | exact Drawn0.refl _ | apply Drawn0.step)⟩
          · rw [if_neg c6] at H
            have c6b0 : (a0.toList == ([114, 101, 112, 101, 97, 116, 101, 100] : List UInt8)) = false := beq_eq_false_iff_ne.mpr c6
            have c6b1 : (a0.toList != ([114, 101, 112, 101, 97, 116, 101, 100] : List UInt8)) = true := bne_iff_ne.mpr c6
            by_cases c7 : a0.toList = ([114, 101, 115, 101, 114, 118, 101, 100] : List UInt8)
            · rw [if_pos c7] at H
              have c7b0 : (a0.toList == ([114, 101, 115, 101, 114, 118, 101, 100] : List UInt8)) = true := beq_iff_eq.mpr c7
              have c7b1 : (a0.toList != ([114, 101, 115, 101, 114, 118, 101, 100] : List UInt8)) = false := bne_eq_false_iff_eq.mpr c7
              clear c7
              have H' := Aside0.mk H
              clear H
              go_wp2
              go_meet
              case rel => exact ⟨_, ((a0.toList == ([114, 101, 115, 101, 114, 118, 101, 100] : List UInt8))), (by first | rfl | (simp; done) | (simp [*]; done) | (simp [isEmpty_bne]; done) | exact isEmpty_bne _ | exact isEmpty_bne' _), H', ⟨by first | omega | exact Nat.le_refl _⟩, by repeat (first | exact Drawn0.refl _ | apply Drawn0.step)⟩
            · rw [if_neg c7] at H
              have c7b0 : (a0.toList == ([114, 101, 115, 101, 114, 118, 101, 100] : List UInt8)) = false := beq_eq_false_iff_ne.mpr c7
              have c7b1 : (a0.toList != ([114, 101, 115, 101, 114, 118, 101, 100] : List UInt8)) = true := bne_iff_ne.mpr c7
              have H' := Aside0.mk H
              clear H
              go_wp2
              go_meet
              case rel => exact ⟨_, ((a0.toList == ([108, 111, 111, 115, 101] : List UInt8))), (by first | rfl | (simp; done) | (simp [*]; done) | (simp [isEmpty_bne]; done) | exact isEmpty_bne _ | exact isEmpty_bne' _), H', ⟨by first | omega | exact Nat.le_refl _⟩, by repeat (first | exact Drawn0.refl _ | apply Drawn0.step)⟩
  case rest =>
    clear HC2
    try clear p2
    try clear c3
    try clear c3b0
    try clear c3b1
    try clear c4
    try clear c4b0
    try clear c4b1
    try clear c5
    try clear c5b0
    try clear c5b1
    try clear c6
    try clear c6b0
    try clear c6b1
    try clear c7
    try clear c7b0
    try clear c7b1
    obtain ⟨kq, x4_1, rfl, HA, HJ1, ⟨mc1, rfl⟩⟩ := hcut
    cases kq with
    | zero => exact absurd HA.out (by simp [ident_word.j0])
    | succ kj1 =>
      have H := HA.out
      clear HA
      simp only [ident_word.j0] at H
      by_cases c8 : x4_1 = true
      · subst c8
        have H1 : (some true) = some r := by rw [if_pos rfl] at H; exact H
        clear H
        have H := H1
        clear H1
        obtain rfl := Option.some.inj H
        go_wp2
        go_ret
        exact ⟨by first | rfl | (simp; done) | (simp [*]; done), by repeat (first | exact Drawn0.refl _ | apply Drawn0.step)⟩
      · replace c8 := Bool.eq_false_iff.mpr c8
        subst c8
        have H1 : (if a0.toList = ([105, 110, 116, 51, 50] : List UInt8) then (ident_word.j1 kj1 a0 (a0.toList == ([105, 110, 116, 51, 50] : List UInt8))) else (if a0.toList = ([105, 110, 116, 54, 52] : List UInt8) then (ident_word.j1 kj1 a0 (a0.toList == ([105, 110, 116, 54, 52] : List UInt8))) else (if a0.toList = ([117, 105, 110, 116, 51, 50] : List UInt8) then (ident_word.j1 kj1 a0 (a0.toList == ([117, 105, 110, 116, 51, 50] : List UInt8))) else (if a0.toList = ([117, 105, 110, 116, 54, 52] : List UInt8) then (ident_word.j1 kj1 a0 (a0.toList == ([117, 105, 110, 116, 54, 52] : List UInt8))) else (if a0.toList = ([115, 105, 110, 116, 51, 50] : List UInt8) then (ident_word.j1 kj1 a0 (a0.toList == ([115, 105, 110, 116, 51, 50] : List UInt8))) else (if a0.toList = ([115, 105, 110, 116, 54, 52] : List UInt8) then (ident_word.j1 kj1 a0 (a0.toList == ([115, 105, 110, 116, 54, 52] : List UInt8))) else (ident_word.j1 kj1 a0 (a0.toList == ([98, 111, 111, 108] : List UInt8))))))))) = some r := by rw [if_neg (show ¬ (false = true) by decide)] at H; exact H
        clear H
        have H := H1
        clear H1
        have HC9 := Aside0.mk H
        clear H
        go_upto_if 11 with (fail)
        go_cut [11] (fun v11 wc => ∃ (kq : Nat) (x11_8 : Bool), v11 = .bool x11_8 ∧ Aside0 (ident_word.j1 kq a0 x11_8 = some r) ∧ Aside0 (kq ≤ kj1) ∧ Drawn0 w wc)
        case first =>
          have H := HC9.out
          clear HC9
          by_cases c10 : a0.toList = ([105, 110, 116, 51, 50] : List UInt8)
          · rw [if_pos c10] at H
            have c10b0 : (a0.toList == ([105, 110, 116, 51, 50] : List UInt8)) = true := beq_iff_eq.mpr c10
            have c10b1 : (a0.toList != ([105, 110, 116, 51, 50] : List UInt8)) = false := bne_eq_false_iff_eq.mpr c10
            clear c10
            (first | rw [c10b0] | (simp only [i64_w, i32_w]; rw [c10b0]) | skip)
            have H' := Aside0.mk H
            clear H
            go_wp2
            go_meet
            case rel => exact ⟨_, ((a0.toList == ([105, 110, 116, 51, 50] : List UInt8))), (by first | rfl | (simp; done) | (simp [*]; done) | (simp [isEmpty_bne]; done) | exact isEmpty_bne _ | exact isEmpty_bne' _), H', ⟨by have := HJ1.out; first | omega | exact Nat.le_refl _⟩, by repeat (first | exact Drawn0.refl _ | apply Drawn0.step)⟩
          · rw [if_neg c10] at H
            have c10b0 : (a0.toList == ([105, 110, 116, 51, 50] : List UInt8)) = false := beq_eq_false_iff_ne.mpr c10
            have c10b1 : (a0.toList != ([105, 110, 116, 51, 50] : List UInt8)) = true := bne_iff_ne.mpr c10
            (first | rw [c10b0] | (simp only [i64_w, i32_w]; rw [c10b0]) | skip)
            by_cases c11 : a0.toList = ([105, 110, 116, 54, 52] : List UInt8)
            · rw [if_pos c11] at H
              have c11b0 : (a0.toList == ([105, 110, 116, 54, 52] : List UInt8)) = true := beq_iff_eq.mpr c11
              have c11b1 : (a0.toList != ([105, 110, 116, 54, 52] : List UInt8)) = false := bne_eq_false_iff_eq.mpr c11
              clear c11
              have H' := Aside0.mk H
              clear H
              go_wp2
              go_meet
              case rel => exact ⟨_, ((a0.toList == ([105, 110, 116, 54, 52] : List UInt8))), (by first | rfl | (simp; done) | (simp [*]; done) | (simp [isEmpty_bne]; done) | exact isEmpty_bne _ | exact isEmpty_bne' _), H', ⟨by have := HJ1.out; first | omega | exact Nat.le_refl _⟩, by repeat (first | exact Drawn0.refl _ | apply Drawn0.step)⟩
            · rw [if_neg c11] at H
              have c11b0 : (a0.toList == ([105, 110, 116, 54, 52] : List UInt8)) = false := beq_eq_false_iff_ne.mpr c11
              have c11b1 : (a0.toList != ([105, 110, 116, 54, 52] : List UInt8)) = true := bne_iff_ne.mpr c11
              by_cases c12 : a0.toList = ([117, 105, 110, 116, 51, 50] : List UInt8)
              · rw [if_pos c12] at H
                have c12b0 : (a0.toList == ([117, 105, 110, 116, 51, 50] : List UInt8)) = true := beq_iff_eq.mpr c12
                have c12b1 : (a0.toList != ([117, 105, 110, 116, 51, 50] : List UInt8)) = false := bne_eq_false_iff_eq.mpr c12
                clear c12
                have H' := Aside0.mk H
                clear H
                go_wp2
                go_meet
                case rel => exact ⟨_, ((a0.toList == ([117, 105, 110, 116, 51, 50] : List UInt8))), (by first | rfl | (simp; done) | (simp [*]; done) | (simp [isEmpty_bne]; done) | exact isEmpty_bne _ | exact isEmpty_bne' _), H', ⟨by have := HJ1.out; first | omega | exact Nat.le_refl _⟩, by repeat (first | exact Drawn0.refl _ | apply Drawn0.step)⟩
              · rw [if_neg c12] at H
                have c12b0 : (a0.toList == ([117, 105, 110, 116, 51, 50] : List UInt8)) = false := beq_eq_false_iff_ne.mpr c12
                have c12b1 : (a0.toList != ([117, 105, 110, 116, 51, 50] : List UInt8)) = true := bne_iff_ne.mpr c12
                by_cases c13 : a0.toList = ([117, 105, 110, 116, 54, 52] : List UInt8)
                · rw [if_pos c13] at H
                  have c13b0 : (a0.toList == ([117, 105, 110, 116, 54, 52] : List UInt8)) = true := beq_iff_eq.mpr c13
                  have c13b1 : (a0.toList != ([117, 105, 110, 116, 54, 52] : List UInt8)) = false := bne_eq_false_iff_eq.mpr c13
                  clear c13
                  have H' := Aside0.mk H
                  clear H
                  go_wp2
                  go_meet
                  case rel => exact ⟨_, ((a0.toList == ([117, 105, 110, 116, 54, 52] : List UInt8))), (by first | rfl | (simp; done) | (simp [*]; done) | (simp [isEmpty_bne]; done) | exact isEmpty_bne _ | exact isEmpty_bne' _), H', ⟨by have := HJ1.out; first | omega | exact Nat.le_refl _⟩, by repeat (first | exact Drawn0.refl _ | apply Drawn0.step)⟩
                · rw [if_neg c13] at H
                  have c13b0 : (a0.toList == ([117, 105, 110, 116, 54, 52] : List UInt8)) = false := beq_eq_false_iff_ne.mpr c13
                  have c13b1 : (a0.toList != ([117, 105, 110, 116, 54, 52] : List UInt8)) = true := bne_iff_ne.mpr c13
                  by_cases c14 : a0.toList = ([115, 105, 110, 116, 51, 50] : List UInt8)
                  · rw [if_pos c14] at H
                    have c14b0 : (a0.toList == ([115, 105, 110, 116, 51, 50] : List UInt8)) = true := beq_iff_eq.mpr c14
                    have c14b1 : (a0.toList != ([115, 105, 110, 116, 51, 50] : List UInt8)) = false := bne_eq_false_iff_eq.mpr c14
                    clear c14
                    have H' := Aside0.mk H
                    clear H
                    go_wp2
                    go_meet
                    case rel => exact ⟨_, ((a0.toList == ([115, 105, 110, 116, 51, 50] : List UInt8))), (by first | rfl | (simp; done) | (simp [*]; done) | (simp [isEmpty_bne]; done) | exact isEmpty_bne _ | exact isEmpty_bne' _), H', ⟨by have := HJ1.out; first | omega | exact Nat.le_refl _⟩, by repeat (first | exact Drawn0.refl _ | apply Drawn0.step)⟩
                  · rw [if_neg c14] at H
                    have c14b0 : (a0.toList == ([115, 105, 110, 116, 51, 50] : List UInt8)) = false := beq_eq_false_iff_ne.mpr c14
                    have c14b1 : (a0.toList != ([115, 105, 110, 116, 51, 50] : List UInt8)) = true := bne_iff_ne.mpr c14
                    by_cases c15 : a0.toList = ([115, 105, 110, 116, 54, 52] : List UInt8)
                    · rw [if_pos c15] at H
                      have c15b0 : (a0.toList == ([115, 105, 110, 116, 54, 52] : List UInt8)) = true := beq_iff_eq.mpr c15
                      have c15b1 : (a0.toList != ([115, 105, 110, 116, 54, 52] : List UInt8)) = false := bne_eq_false_iff_eq.mpr c15
                      clear c15
                      have H' := Aside0.mk H
                      clear H
                      go_wp2
                      go_meet
                      case rel => exact ⟨_, ((a0.toList == ([115, 105, 110, 116, 54, 52] : List UInt8))), (by first | rfl | (simp; done) | (simp [*]; done) | (simp [isEmpty_bne]; done) | exact isEmpty_bne _ | exact isEmpty_bne' _), H', ⟨by have := HJ1.out; first | omega | exact Nat.le_refl _⟩, by repeat (first | exact Drawn0.refl _ | apply Drawn0.step)⟩
                    · rw [if_neg c15] at H
                      have c15b0 : (a0.toList == ([115, 105, 110, 116, 54, 52] : List UInt8)) = false := beq_eq_false_iff_ne.mpr c15
                      have c15b1 : (a0.toList != ([115, 105, 110, 116, 54, 52] : List UInt8)) = true := bne_iff_ne.mpr c15
                      have H' := Aside0.mk H
                      clear H
                      go_wp2
                      go_meet
                      case rel => exact ⟨_, ((a0.toList == ([98, 111, 111, 108] : List UInt8))), (by first | rfl | (simp; done) | (simp [*]; done) | (simp [isEmpty_bne]; done) | exact isEmpty_bne _ | exact isEmpty_bne' _), H', ⟨by have := HJ1.out; first | omega | exact Nat.le_refl _⟩, by repeat (first | exact Drawn0.refl _ | apply Drawn0.step)⟩
        case rest =>
          clear HC9
          try clear c1
          try clear p2
          try clear c3
          try clear c3b0
          try clear c3b1
          try clear c4
          try clear c4b0
          try clear c4b1
          try clear c5
          try clear c5b0
          try clear c5b1
          try clear c6
          try clear c6b0
          try clear c6b1
          try clear c7
          try clear c7b0
          try clear c7b1
          try clear c8
          try clear c10
          try clear c10b0
          try clear c10b1
          try clear c11
          try clear c11b0
          try clear c11b1
          try clear c12
          try clear c12b0
          try clear c12b1
          try clear c13
          try clear c13b0
          try clear c13b1
          try clear c14
          try clear c14b0
          try clear c14b1
          try clear c15
          try clear c15b0
          try clear c15b1
          try clear p2
          obtain ⟨kq, x11_8, rfl, HA, HJ8, ⟨mc8, rfl⟩⟩ := hcut
          cases kq with
          | zero => exact absurd HA.out (by simp [ident_word.j1])
          | succ kj8 =>
            have H := HA.out
            clear HA
            simp only [ident_word.j1] at H
            by_cases c16 : x11_8 = true
            · subst c16
              have H1 : (some true) = some r := by rw [if_pos rfl] at H; exact H
              clear H
              have H := H1
              clear H1
              obtain rfl := Option.some.inj H
              go_wp2
              go_ret
              exact ⟨by first | rfl | (simp; done) | (simp [*]; done), by repeat (first | exact Drawn0.refl _ | apply Drawn0.step)⟩
            · replace c16 := Bool.eq_false_iff.mpr c16
              subst c16
              have H1 : (if a0.toList = ([102, 105, 120, 101, 100, 51, 50] : List UInt8) then (ident_word.j2 kj8 a0 (a0.toList == ([102, 105, 120, 101, 100, 51, 50] : List UInt8))) else (if a0.toList = ([102, 105, 120, 101, 100, 54, 52] : List UInt8) then (ident_word.j2 kj8 a0 (a0.toList == ([102, 105, 120, 101, 100, 54, 52] : List UInt8))) else (if a0.toList = ([115, 102, 105, 120, 101, 100, 51, 50] : List UInt8) then (ident_word.j2 kj8 a0 (a0.toList == ([115, 102, 105, 120, 101, 100, 51, 50] : List UInt8))) else (if a0.toList = ([115, 102, 105, 120, 101, 100, 54, 52] : List UInt8) then (ident_word.j2 kj8 a0 (a0.toList == ([115, 102, 105, 120, 101, 100, 54, 52] : List UInt8))) else (if a0.toList = ([115, 116, 114, 105, 110, 103] : List UInt8) then (ident_word.j2 kj8 a0 (a0.toList == ([115, 116, 114, 105, 110, 103] : List UInt8))) else (ident_word.j2 kj8 a0 (a0.toList == ([98, 121, 116, 101, 115] : List UInt8)))))))) = some r := by rw [if_neg (show ¬ (false = true) by decide)] at H; exact H
              clear H
              have H := H1
              clear H1
              have HC17 := Aside0.mk H
              clear H
              go_upto_if 19 with (fail)
              go_cut [19] (fun v19 wc => ∃ (kq : Nat) (x19_16 : Bool), v19 = .bool x19_16 ∧ Aside0 (ident_word.j2 kq a0 x19_16 = some r) ∧ Aside0 (kq ≤ kj8) ∧ Drawn0 w wc)
              case first =>
                have H := HC17.out
                clear HC17
                by_cases c18 : a0.toList = ([102, 105, 120, 101, 100, 51, 50] : List UInt8)
                · rw [if_pos c18] at H
                  have c18b0 : (a0.toList == ([102, 105, 120, 101, 100, 51, 50] : List UInt8)) = true := beq_iff_eq.mpr c18
                  have c18b1 : (a0.toList != ([102, 105, 120, 101, 100, 51, 50] : List UInt8)) = false := bne_eq_false_iff_eq.mpr c18
                  clear c18
                  (first | rw [c18b0] | (simp only [i64_w, i32_w]; rw [c18b0]) | skip)
                  have H' := Aside0.mk H
                  clear H
                  go_wp2
                  go_meet
                  case rel => exact ⟨_, ((a0.toList == ([102, 105, 120, 101, 100, 51, 50] : List UInt8))), (by first | rfl | (simp; done) | (simp [*]; done) | (simp [isEmpty_bne]; done) | exact isEmpty_bne _ | exact isEmpty_bne' _), H', ⟨by have := HJ1.out; have := HJ8.out; first | omega | exact Nat.le_refl _⟩, by repeat (first | exact Drawn0.refl _ | apply Drawn0.step)⟩
                · rw [if_neg c18] at H
                  have c18b0 : (a0.toList == ([102, 105, 120, 101, 100, 51, 50] : List UInt8)) = false := beq_eq_false_iff_ne.mpr c18
                  have c18b1 : (a0.toList != ([102, 105, 120, 101, 100, 51, 50] : List UInt8)) = true := bne_iff_ne.mpr c18
                  (first | rw [c18b0] | (simp only [i64_w, i32_w]; rw [c18b0]) | skip)
                  by_cases c19 : a0.toList = ([102, 105, 120, 101, 100, 54, 52] : List UInt8)
                  · rw [if_pos c19] at H
                    have c19b0 : (a0.toList == ([102, 105, 120, 101, 100, 54, 52] : List UInt8)) = true := beq_iff_eq.mpr c19
                    have c19b1 : (a0.toList != ([102, 105, 120, 101, 100, 54, 52] : List UInt8)) = false := bne_eq_false_iff_eq.mpr c19
                    clear c19
                    have H' := Aside0.mk H
                    clear H
                    go_wp2
                    go_meet
                    case rel => exact ⟨_, ((a0.toList == ([102, 105, 120, 101, 100, 54, 52] : List UInt8))), (by first | rfl | (simp; done) | (simp [*]; done) | (simp [isEmpty_bne]; done) | exact isEmpty_bne _ | exact isEmpty_bne' _), H', ⟨by have := HJ1.out; have := HJ8.out; first | omega | exact Nat.le_refl _⟩, by repeat (first | exact Drawn0.refl _ | apply Drawn0.step)⟩
                  · rw [if_neg c19] at H
                    have c19b0 : (a0.toList == ([102, 105, 120, 101, 100, 54, 52] : List UInt8)) = false := beq_eq_false_iff_ne.mpr c19
                    have c19b1 : (a0.toList != ([102, 105, 120, 101, 100, 54, 52] : List UInt8)) = true := bne_iff_ne.mpr c19
                    by_cases c20 : a0.toList = ([115, 102, 105, 120, 101, 100, 51, 50] : List UInt8)
                    · rw [if_pos c20] at H
                      have c20b0 : (a0.toList == ([115, 102, 105, 120, 101, 100, 51, 50] : List UInt8)) = true := beq_iff_eq.mpr c20
                      have c20b1 : (a0.toList != ([115, 102, 105, 120, 101, 100, 51, 50] : List UInt8)) = false := bne_eq_false_iff_eq.mpr c20
                      clear c20
                      have H' := Aside0.mk H
                      clear H
                      go_wp2
                      go_meet
                      case rel => exact ⟨_, ((a0.toList == ([115, 102, 105, 120, 101, 100, 51, 50] : List UInt8))), (by first | rfl | (simp; done) | (simp [*]; done) | (simp [isEmpty_bne]; done) | exact isEmpty_bne _ | exact isEmpty_bne' _), H', ⟨by have := HJ1.out; have := HJ8.out; first | omega | exact Nat.le_refl _⟩, by repeat (first | exact Drawn0.refl _ | apply Drawn0.step)⟩
                    · rw [if_neg c20] at H
                      have c20b0 : (a0.toList == ([115, 102, 105, 120, 101, 100, 51, 50] : List UInt8)) = false := beq_eq_false_iff_ne.mpr c20
                      have c20b1 : (a0.toList != ([115, 102, 105, 120, 101, 100, 51, 50] : List UInt8)) = true := bne_iff_ne.mpr c20
                      by_cases c21 : a0.toList = ([115, 102, 105, 120, 101, 100, 54, 52] : List UInt8)
                      · rw [if_pos c21] at H
                        have c21b0 : (a0.toList == ([115, 102, 105, 120, 101, 100, 54, 52] : List UInt8)) = true := beq_iff_eq.mpr c21
                        have c21b1 : (a0.toList != ([115, 102, 105, 120, 101, 100, 54, 52] : List UInt8)) = false := bne_eq_false_iff_eq.mpr c21
                        clear c21
                        have H' := Aside0.mk H
                        clear H
                        go_wp2
                        go_meet
                        case rel => exact ⟨_, ((a0.toList == ([115, 102, 105, 120, 101, 100, 54, 52] : List UInt8))), (by first | rfl | (simp; done) | (simp [*]; done) | (simp [isEmpty_bne]; done) | exact isEmpty_bne _ | exact isEmpty_bne' _), H', ⟨by have := HJ1.out; have := HJ8.out; first | omega | exact Nat.le_refl _⟩, by repeat (first | exact Drawn0.refl _ | apply Drawn0.step)⟩
                      · rw [if_neg c21] at H
                        have c21b0 : (a0.toList == ([115, 102, 105, 120, 101, 100, 54, 52] : List UInt8)) = false := beq_eq_false_iff_ne.mpr c21
                        have c21b1 : (a0.toList != ([115, 102, 105, 120, 101, 100, 54, 52] : List UInt8)) = true := bne_iff_ne.mpr c21
                        by_cases c22 : a0.toList = ([115, 116, 114, 105, 110, 103] : List UInt8)
                        · rw [if_pos c22] at H
                          have c22b0 : (a0.toList == ([115, 116, 114, 105, 110, 103] : List UInt8)) = true := beq_iff_eq.mpr c22
                          have c22b1 : (a0.toList != ([115, 116, 114, 105, 110, 103] : List UInt8)) = false := bne_eq_false_iff_eq.mpr c22
                          clear c22
                          have H' := Aside0.mk H
                          clear H
                          go_wp2
                          go_meet
                          case rel => exact ⟨_, ((a0.toList == ([115, 116, 114, 105, 110, 103] : List UInt8))), (by first | rfl | (simp; done) | (simp [*]; done) | (simp [isEmpty_bne]; done) | exact isEmpty_bne _ | exact isEmpty_bne' _), H', ⟨by have := HJ1.out; have := HJ8.out; first | omega | exact Nat.le_refl _⟩, by repeat (first | exact Drawn0.refl _ | apply Drawn0.step)⟩
                        · rw [if_neg c22] at H
                          have c22b0 : (a0.toList == ([115, 116, 114, 105, 110, 103] : List UInt8)) = false := beq_eq_false_iff_ne.mpr c22
                          have c22b1 : (a0.toList != ([115, 116, 114, 105, 110, 103] : List UInt8)) = true := bne_iff_ne.mpr c22
                          have H' := Aside0.mk H
                          clear H
                          go_wp2
                          go_meet
                          case rel => exact ⟨_, ((a0.toList == ([98, 121, 116, 101, 115] : List UInt8))), (by first | rfl | (simp; done) | (simp [*]; done) | (simp [isEmpty_bne]; done) | exact isEmpty_bne _ | exact isEmpty_bne' _), H', ⟨by have := HJ1.out; have := HJ8.out; first | omega | exact Nat.le_refl _⟩, by repeat (first | exact Drawn0.refl _ | apply Drawn0.step)⟩
              case rest =>
                clear HC17
                try clear c1
                try clear c2
                try clear p2
                try clear c3
                try clear c3b0
                try clear c3b1
                try clear c4
                try clear c4b0
                try clear c4b1
                try clear c5
                try clear c5b0
                try clear c5b1
                try clear c6
                try clear c6b0
                try clear c6b1
                try clear c7
                try clear c7b0
                try clear c7b1
                try clear c8
                try clear c10
                try clear c10b0
                try clear c10b1
                try clear c11
                try clear c11b0
                try clear c11b1
                try clear c12
                try clear c12b0
                try clear c12b1
                try clear c13
                try clear c13b0
                try clear c13b1
                try clear c14
                try clear c14b0
                try clear c14b1
                try clear c15
                try clear c15b0
                try clear c15b1
                try clear c16
                try clear c18
                try clear c18b0
                try clear c18b1
                try clear c19
                try clear c19b0
                try clear c19b1
                try clear c20
                try clear c20b0
                try clear c20b1
                try clear c21
                try clear c21b0
                try clear c21b1
                try clear c22
                try clear c22b0
                try clear c22b1
                try clear p2
                obtain ⟨kq, x19_16, rfl, HA, HJ16, ⟨mc16, rfl⟩⟩ := hcut
                cases kq with
                | zero => exact absurd HA.out (by simp [ident_word.j2])
                | succ kj16 =>
                  have H := HA.out
                  clear HA
                  simp only [ident_word.j2] at H
                  by_cases c23 : x19_16 = true
                  · subst c23
                    have H1 : (some true) = some r := by rw [if_pos rfl] at H; exact H
                    clear H
                    have H := H1
                    clear H1
                    obtain rfl := Option.some.inj H
                    go_wp2
                    go_ret
                    exact ⟨by first | rfl | (simp; done) | (simp [*]; done), by repeat (first | exact Drawn0.refl _ | apply Drawn0.step)⟩
                  · replace c23 := Bool.eq_false_iff.mpr c23
                    subst c23
                    have H1 : (if a0.toList = ([114, 101, 110, 97, 109, 101] : List UInt8) then (ident_word.j3 kj16 a0 (a0.toList == ([114, 101, 110, 97, 109, 101] : List UInt8))) else (if a0.toList = ([114, 101, 110, 117, 109, 98, 101, 114] : List UInt8) then (ident_word.j3 kj16 a0 (a0.toList == ([114, 101, 110, 117, 109, 98, 101, 114] : List UInt8))) else (if a0.toList = ([114, 101, 116, 121, 112, 101] : List UInt8) then (ident_word.j3 kj16 a0 (a0.toList == ([114, 101, 116, 121, 112, 101] : List UInt8))) else (if a0.toList = ([115, 112, 108, 105, 116] : List UInt8) then (ident_word.j3 kj16 a0 (a0.toList == ([115, 112, 108, 105, 116] : List UInt8))) else (if a0.toList = ([106, 111, 105, 110] : List UInt8) then (ident_word.j3 kj16 a0 (a0.toList == ([106, 111, 105, 110] : List UInt8))) else (if a0.toList = ([119, 114, 97, 112] : List UInt8) then (ident_word.j3 kj16 a0 (a0.toList == ([119, 114, 97, 112] : List UInt8))) else (if a0.toList = ([117, 110, 119, 114, 97, 112] : List UInt8) then (ident_word.j3 kj16 a0 (a0.toList == ([117, 110, 119, 114, 97, 112] : List UInt8))) else (if a0.toList = ([97, 100, 100] : List UInt8) then (ident_word.j3 kj16 a0 (a0.toList == ([97, 100, 100] : List UInt8))) else (ident_word.j3 kj16 a0 (a0.toList == ([100, 114, 111, 112] : List UInt8))))))))))) = some r := by rw [if_neg (show ¬ (false = true) by decide)] at H; exact H
                    clear H
                    have H := H1
                    clear H1
                    have HC24 := Aside0.mk H
                    clear H
                    go_upto_if 26 with (fail)
                    go_cut [26] (fun v26 wc => ∃ (kq : Nat) (x26_23 : Bool), v26 = .bool x26_23 ∧ Aside0 (ident_word.j3 kq a0 x26_23 = some r) ∧ Aside0 (kq ≤ kj16) ∧ Drawn0 w wc)
                    case first =>
                      have H := HC24.out
                      clear HC24
                      by_cases c25 : a0.toList = ([114, 101, 110, 97, 109, 101] : List UInt8)
                      · rw [if_pos c25] at H
                        have c25b0 : (a0.toList == ([114, 101, 110, 97, 109, 101] : List UInt8)) = true := beq_iff_eq.mpr c25
                        have c25b1 : (a0.toList != ([114, 101, 110, 97, 109, 101] : List UInt8)) = false := bne_eq_false_iff_eq.mpr c25
                        clear c25
                        (first | rw [c25b0] | (simp only [i64_w, i32_w]; rw [c25b0]) | skip)
                        have H' := Aside0.mk H
                        clear H
                        go_wp2
                        go_meet
                        case rel => exact ⟨_, ((a0.toList == ([114, 101, 110, 97, 109, 101] : List UInt8))), (by first | rfl | (simp; done) | (simp [*]; done) | (simp [isEmpty_bne]; done) | exact isEmpty_bne _ | exact isEmpty_bne' _), H', ⟨by have := HJ1.out; have := HJ8.out; have := HJ16.out; first | omega | exact Nat.le_refl _⟩, by repeat (first | exact Drawn0.refl _ | apply Drawn0.step)⟩
                      · rw [if_neg c25] at H
                        have c25b0 : (a0.toList == ([114, 101, 110, 97, 109, 101] : List UInt8)) = false := beq_eq_false_iff_ne.mpr c25
                        have c25b1 : (a0.toList != ([114, 101, 110, 97, 109, 101] : List UInt8)) = true := bne_iff_ne.mpr c25
                        (first | rw [c25b0] | (simp only [i64_w, i32_w]; rw [c25b0]) | skip)
                        by_cases c26 : a0.toList = ([114, 101, 110, 117, 109, 98, 101, 114] : List UInt8)
                        · rw [if_pos c26] at H
                          have c26b0 : (a0.toList == ([114, 101, 110, 117, 109, 98, 101, 114] : List UInt8)) = true := beq_iff_eq.mpr c26
                          have c26b1 : (a0.toList != ([114, 101, 110, 117, 109, 98, 101, 114] : List UInt8)) = false := bne_eq_false_iff_eq.mpr c26
                          clear c26
                          have H' := Aside0.mk H
                          clear H
                          go_wp2
                          go_meet
                          case rel => exact ⟨_, ((a0.toList == ([114, 101, 110, 117, 109, 98, 101, 114] : List UInt8))), (by first | rfl | (simp; done) | (simp [*]; done) | (simp [isEmpty_bne]; done) | exact isEmpty_bne _ | exact isEmpty_bne' _), H', ⟨by have := HJ1.out; have := HJ8.out; have := HJ16.out; first | omega | exact Nat.le_refl _⟩, by repeat (first | exact Drawn0.refl _ | apply Drawn0.step)⟩
                        · rw [if_neg c26] at H
                          have c26b0 : (a0.toList == ([114, 101, 110, 117, 109, 98, 101, 114] : List UInt8)) = false := beq_eq_false_iff_ne.mpr c26
                          have c26b1 : (a0.toList != ([114, 101, 110, 117, 109, 98, 101, 114] : List UInt8)) = true := bne_iff_ne.mpr c26
                          by_cases c27 : a0.toList = ([114, 101, 116, 121, 112, 101] : List UInt8)
                          · rw [if_pos c27] at H
                            have c27b0 : (a0.toList == ([114, 101, 116, 121, 112, 101] : List UInt8)) = true := beq_iff_eq.mpr c27
                            have c27b1 : (a0.toList != ([114, 101, 116, 121, 112, 101] : List UInt8)) = false := bne_eq_false_iff_eq.mpr c27
                            clear c27
                            have H' := Aside0.mk H
                            clear H
                            go_wp2
                            go_meet
                            case rel => exact ⟨_, ((a0.toList == ([114, 101, 116, 121, 112, 101] : List UInt8))), (by first | rfl | (simp; done) | (simp [*]; done) | (simp [isEmpty_bne]; done) | exact isEmpty_bne _ | exact isEmpty_bne' _), H', ⟨by have := HJ1.out; have := HJ8.out; have := HJ16.out; first | omega | exact Nat.le_refl _⟩, by repeat (first | exact Drawn0.refl _ | apply Drawn0.step)⟩
                          · rw [if_neg c27] at H
                            have c27b0 : (a0.toList == ([114, 101, 116, 121, 112, 101] : List UInt8)) = false := beq_eq_false_iff_ne.mpr c27
                            have c27b1 : (a0.toList != ([114, 101, 116, 121, 112, 101] : List UInt8)) = true := bne_iff_ne.mpr c27
                            by_cases c28 : a0.toList = ([115, 112, 108, 105, 116] : List UInt8)
                            · rw [if_pos c28] at H
                              have c28b0 : (a0.toList == ([115, 112, 108, 105, 116] : List UInt8)) = true := beq_iff_eq.mpr c28
                              have c28b1 : (a0.toList != ([115, 112, 108, 105, 116] : List UInt8)) = false := bne_eq_false_iff_eq.mpr c28
                              clear c28
                              have H' := Aside0.mk H
                              clear H
                              go_wp2
                              go_meet
                              case rel => exact ⟨_, ((a0.toList == ([115, 112, 108, 105, 116] : List UInt8))), (by first | rfl | (simp; done) | (simp [*]; done) | (simp [isEmpty_bne]; done) | exact isEmpty_bne _ | exact isEmpty_bne' _), H', ⟨by have := HJ1.out; have := HJ8.out; have := HJ16.out; first | omega | exact Nat.le_refl _⟩, by repeat (first | exact Drawn0.refl _ | apply Drawn0.step)⟩
                            · rw [if_neg c28] at H
                              have c28b0 : (a0.toList == ([115, 112, 108, 105, 116] : List UInt8)) = false := beq_eq_false_iff_ne.mpr c28
                              have c28b1 : (a0.toList != ([115, 112, 108, 105, 116] : List UInt8)) = true := bne_iff_ne.mpr c28
                              by_cases c29 : a0.toList = ([106, 111, 105, 110] : List UInt8)
                              · rw [if_pos c29] at H
                                have c29b0 : (a0.toList == ([106, 111, 105, 110] : List UInt8)) = true := beq_iff_eq.mpr c29
                                have c29b1 : (a0.toList != ([106, 111, 105, 110] : List UInt8)) = false := bne_eq_false_iff_eq.mpr c29
                                clear c29
                                have H' := Aside0.mk H
                                clear H
                                go_wp2
                                go_meet
                                case rel => exact ⟨_, ((a0.toList == ([106, 111, 105, 110] : List UInt8))), (by first | rfl | (simp; done) | (simp [*]; done) | (simp [isEmpty_bne]; done) | exact isEmpty_bne _ | exact isEmpty_bne' _), H', ⟨by have := HJ1.out; have := HJ8.out; have := HJ16.out; first | omega | exact Nat.le_refl _⟩, by repeat (first | exact Drawn0.refl _ | apply Drawn0.step)⟩
                              · rw [if_neg c29] at H
                                have c29b0 : (a0.toList == ([106, 111, 105, 110] : List UInt8)) = false := beq_eq_false_iff_ne.mpr c29
                                have c29b1 : (a0.toList != ([106, 111, 105, 110] : List UInt8)) = true := bne_iff_ne.mpr c29
                                by_cases c30 : a0.toList = ([119, 114, 97, 112] : List UInt8)
                                · rw [if_pos c30] at H
                                  have c30b0 : (a0.toList == ([119, 114, 97, 112] : List UInt8)) = true := beq_iff_eq.mpr c30
                                  have c30b1 : (a0.toList != ([119, 114, 97, 112] : List UInt8)) = false := bne_eq_false_iff_eq.mpr c30
                                  clear c30
                                  have H' := Aside0.mk H
                                  clear H
                                  go_wp2
                                  go_meet
                                  case rel => exact ⟨_, ((a0.toList == ([119, 114, 97, 112] : List UInt8))), (by first | rfl | (simp; done) | (simp [*]; done) | (simp [isEmpty_bne]; done) | exact isEmpty_bne _ | exact isEmpty_bne' _), H', ⟨by have := HJ1.out; have := HJ8.out; have := HJ16.out; first | omega | exact Nat.le_refl _⟩, by repeat (first | exact Drawn0.refl _ | apply Drawn0.step)⟩
                                · rw [if_neg c30] at H
                                  have c30b0 : (a0.toList == ([119, 114, 97, 112] : List UInt8)) = false := beq_eq_false_iff_ne.mpr c30
                                  have c30b1 : (a0.toList != ([119, 114, 97, 112] : List UInt8)) = true := bne_iff_ne.mpr c30
                                  by_cases c31 : a0.toList = ([117, 110, 119, 114, 97, 112] : List UInt8)
                                  · rw [if_pos c31] at H
                                    have c31b0 : (a0.toList == ([117, 110, 119, 114, 97, 112] : List UInt8)) = true := beq_iff_eq.mpr c31
                                    have c31b1 : (a0.toList != ([117, 110, 119, 114, 97, 112] : List UInt8)) = false := bne_eq_false_iff_eq.mpr c31
                                    clear c31
                                    have H' := Aside0.mk H
                                    clear H
                                    go_wp2
                                    go_meet
                                    case rel => exact ⟨_, ((a0.toList == ([117, 110, 119, 114, 97, 112] : List UInt8))), (by first | rfl | (simp; done) | (simp [*]; done) | (simp [isEmpty_bne]; done) | exact isEmpty_bne _ | exact isEmpty_bne' _), H', ⟨by have := HJ1.out; have := HJ8.out; have := HJ16.out; first | omega | exact Nat.le_refl _⟩, by repeat (first | exact Drawn0.refl _ | apply Drawn0.step)⟩
                                  · rw [if_neg c31] at H
                                    have c31b0 : (a0.toList == ([117, 110, 119, 114, 97, 112] : List UInt8)) = false := beq_eq_false_iff_ne.mpr c31
                                    have c31b1 : (a0.toList != ([117, 110, 119, 114, 97, 112] : List UInt8)) = true := bne_iff_ne.mpr c31
                                    by_cases c32 : a0.toList = ([97, 100, 100] : List UInt8)
                                    · rw [if_pos c32] at H
                                      have c32b0 : (a0.toList == ([97, 100, 100] : List UInt8)) = true := beq_iff_eq.mpr c32
                                      have c32b1 : (a0.toList != ([97, 100, 100] : List UInt8)) = false := bne_eq_false_iff_eq.mpr c32
                                      clear c32
                                      have H' := Aside0.mk H
                                      clear H
                                      go_wp2
                                      go_meet
                                      case rel => exact ⟨_, ((a0.toList == ([97, 100, 100] : List UInt8))), (by first | rfl | (simp; done) | (simp [*]; done) | (simp [isEmpty_bne]; done) | exact isEmpty_bne _ | exact isEmpty_bne' _), H', ⟨by have := HJ1.out; have := HJ8.out; have := HJ16.out; first | omega | exact Nat.le_refl _⟩, by repeat (first | exact Drawn0.refl _ | apply Drawn0.step)⟩
                                    · rw [if_neg c32] at H
                                      have c32b0 : (a0.toList == ([97, 100, 100] : List UInt8)) = false := beq_eq_false_iff_ne.mpr c32
                                      have c32b1 : (a0.toList != ([97, 100, 100] : List UInt8)) = true := bne_iff_ne.mpr c32
                                      have H' := Aside0.mk H
                                      clear H
                                      go_wp2
                                      go_meet
                                      case rel => exact ⟨_, ((a0.toList == ([100, 114, 111, 112] : List UInt8))), (by first | rfl | (simp; done) | (simp [*]; done) | (simp [isEmpty_bne]; done) | exact isEmpty_bne _ | exact isEmpty_bne' _), H', ⟨by have := HJ1.out; have := HJ8.out; have := HJ16.out; first | omega | exact Nat.le_refl _⟩, by repeat (first | exact Drawn0.refl _ | apply Drawn0.step)⟩
                    case rest =>
                      clear HC24
                      try clear c1
                      try clear c2
                      try clear p2
                      try clear c3
                      try clear c3b0
                      try clear c3b1
                      try clear c4
                      try clear c4b0
                      try clear c4b1
                      try clear c5
                      try clear c5b0
                      try clear c5b1
                      try clear c6
                      try clear c6b0
                      try clear c6b1
                      try clear c7
                      try clear c7b0
                      try clear c7b1
                      try clear c8
                      try clear c10
                      try clear c10b0
                      try clear c10b1
                      try clear c11
                      try clear c11b0
                      try clear c11b1
                      try clear c12
                      try clear c12b0
                      try clear c12b1
                      try clear c13
                      try clear c13b0
                      try clear c13b1
                      try clear c14
                      try clear c14b0
                      try clear c14b1
                      try clear c15
                      try clear c15b0
                      try clear c15b1
                      try clear c16
                      try clear c18
                      try clear c18b0
                      try clear c18b1
                      try clear c19
                      try clear c19b0
                      try clear c19b1
                      try clear c20
                      try clear c20b0
                      try clear c20b1
                      try clear c21
                      try clear c21b0
                      try clear c21b1
                      try clear c22
                      try clear c22b0
                      try clear c22b1
                      try clear c23
                      try clear c25
                      try clear c25b0
                      try clear c25b1
                      try clear c26
                      try clear c26b0
                      try clear c26b1
                      try clear c27
                      try clear c27b0
                      try clear c27b1
                      try clear c28
                      try clear c28b0
                      try clear c28b1
                      try clear c29
                      try clear c29b0
                      try clear c29b1
                      try clear c30
                      try clear c30b0
                      try clear c30b1
                      try clear c31
                      try clear c31b0
                      try clear c31b1
                      try clear c32
                      try clear c32b0
                      try clear c32b1
                      try clear p2
                      obtain ⟨kq, x26_23, rfl, HA, HJ23, ⟨mc23, rfl⟩⟩ := hcut
                      cases kq with
                      | zero => exact absurd HA.out (by simp [ident_word.j3])
                      | succ kj23 =>
                        have H := HA.out
                        clear HA
                        simp only [ident_word.j3] at H
                        by_cases c33 : x26_23 = true
                        · subst c33
                          have H1 : (some true) = some r := by rw [if_pos rfl] at H; exact H
                          clear H
                          have H := H1
                          clear H1
                          obtain rfl := Option.some.inj H
                          go_wp2
                          go_ret
                          exact ⟨by first | rfl | (simp; done) | (simp [*]; done), by repeat (first | exact Drawn0.refl _ | apply Drawn0.step)⟩
                        · replace c33 := Bool.eq_false_iff.mpr c33
                          subst c33
                          have H1 : (if a0.toList = ([116, 111] : List UInt8) then (some true) else (if a0.toList = ([105, 110, 116, 111] : List UInt8) then (some true) else (if a0.toList = ([97, 115] : List UInt8) then (some true) else (if a0.toList = ([111, 102] : List UInt8) then (some true) else (if a0.toList = ([100, 101, 102, 97, 117, 108, 116] : List UInt8) then (some true) else (if a0.toList = ([116, 114, 117, 101] : List UInt8) then (some true) else (if a0.toList = ([102, 97, 108, 115, 101] : List UInt8) then (some true) else (some false)))))))) = some r := by rw [if_neg (show ¬ (false = true) by decide)] at H; exact H
                          clear H
                          have H := H1
                          clear H1
                          by_cases c34 : a0.toList = ([116, 111] : List UInt8)
                          · rw [if_pos c34] at H
                            have c34b0 : (a0.toList == ([116, 111] : List UInt8)) = true := beq_iff_eq.mpr c34
                            have c34b1 : (a0.toList != ([116, 111] : List UInt8)) = false := bne_eq_false_iff_eq.mpr c34
                            clear c34
                            obtain rfl := Option.some.inj H
                            go_wp2
                            go_ret
                            exact ⟨by first | rfl | (simp; done) | (simp [*]; done), by repeat (first | exact Drawn0.refl _ | apply Drawn0.step)⟩
                          · rw [if_neg c34] at H
                            have c34b0 : (a0.toList == ([116, 111] : List UInt8)) = false := beq_eq_false_iff_ne.mpr c34
                            have c34b1 : (a0.toList != ([116, 111] : List UInt8)) = true := bne_iff_ne.mpr c34
                            by_cases c35 : a0.toList = ([105, 110, 116, 111] : List UInt8)
                            · rw [if_pos c35] at H
                              have c35b0 : (a0.toList == ([105, 110, 116, 111] : List UInt8)) = true := beq_iff_eq.mpr c35
                              have c35b1 : (a0.toList != ([105, 110, 116, 111] : List UInt8)) = false := bne_eq_false_iff_eq.mpr c35
                              clear c35
                              obtain rfl := Option.some.inj H
                              go_wp2
                              go_ret
                              exact ⟨by first | rfl | (simp; done) | (simp [*]; done), by repeat (first | exact Drawn0.refl _ | apply Drawn0.step)⟩
                            · rw [if_neg c35] at H
                              have c35b0 : (a0.toList == ([105, 110, 116, 111] : List UInt8)) = false := beq_eq_false_iff_ne.mpr c35
                              have c35b1 : (a0.toList != ([105, 110, 116, 111] : List UInt8)) = true := bne_iff_ne.mpr c35
                              by_cases c36 : a0.toList = ([97, 115] : List UInt8)
                              · rw [if_pos c36] at H
                                have c36b0 : (a0.toList == ([97, 115] : List UInt8)) = true := beq_iff_eq.mpr c36
                                have c36b1 : (a0.toList != ([97, 115] : List UInt8)) = false := bne_eq_false_iff_eq.mpr c36
                                clear c36
                                obtain rfl := Option.some.inj H
                                go_wp2
                                go_ret
                                exact ⟨by first | rfl | (simp; done) | (simp [*]; done), by repeat (first | exact Drawn0.refl _ | apply Drawn0.step)⟩
                              · rw [if_neg c36] at H
                                have c36b0 : (a0.toList == ([97, 115] : List UInt8)) = false := beq_eq_false_iff_ne.mpr c36
                                have c36b1 : (a0.toList != ([97, 115] : List UInt8)) = true := bne_iff_ne.mpr c36
                                by_cases c37 : a0.toList = ([111, 102] : List UInt8)
                                · rw [if_pos c37] at H
                                  have c37b0 : (a0.toList == ([111, 102] : List UInt8)) = true := beq_iff_eq.mpr c37
                                  have c37b1 : (a0.toList != ([111, 102] : List UInt8)) = false := bne_eq_false_iff_eq.mpr c37
                                  clear c37
                                  obtain rfl := Option.some.inj H
                                  go_wp2
                                  go_ret
                                  exact ⟨by first | rfl | (simp; done) | (simp [*]; done), by repeat (first | exact Drawn0.refl _ | apply Drawn0.step)⟩
                                · rw [if_neg c37] at H
                                  have c37b0 : (a0.toList == ([111, 102] : List UInt8)) = false := beq_eq_false_iff_ne.mpr c37
                                  have c37b1 : (a0.toList != ([111, 102] : List UInt8)) = true := bne_iff_ne.mpr c37
                                  by_cases c38 : a0.toList = ([100, 101, 102, 97, 117, 108, 116] : List UInt8)
                                  · rw [if_pos c38] at H
                                    have c38b0 : (a0.toList == ([100, 101, 102, 97, 117, 108, 116] : List UInt8)) = true := beq_iff_eq.mpr c38
                                    have c38b1 : (a0.toList != ([100, 101, 102, 97, 117, 108, 116] : List UInt8)) = false := bne_eq_false_iff_eq.mpr c38
                                    clear c38
                                    obtain rfl := Option.some.inj H
                                    go_wp2
                                    go_ret
                                    exact ⟨by first | rfl | (simp; done) | (simp [*]; done), by repeat (first | exact Drawn0.refl _ | apply Drawn0.step)⟩
                                  · rw [if_neg c38] at H
                                    have c38b0 : (a0.toList == ([100, 101, 102, 97, 117, 108, 116] : List UInt8)) = false := beq_eq_false_iff_ne.mpr c38
                                    have c38b1 : (a0.toList != ([100, 101, 102, 97, 117, 108, 116] : List UInt8)) = true := bne_iff_ne.mpr c38
                                    by_cases c39 : a0.toList = ([116, 114, 117, 101] : List UInt8)
                                    · rw [if_pos c39] at H
                                      have c39b0 : (a0.toList == ([116, 114, 117, 101] : List UInt8)) = true := beq_iff_eq.mpr c39
                                      have c39b1 : (a0.toList != ([116, 114, 117, 101] : List UInt8)) = false := bne_eq_false_iff_eq.mpr c39
                                      clear c39
                                      obtain rfl := Option.some.inj H
                                      go_wp2
                                      go_ret
                                      exact ⟨by first | rfl | (simp; done) | (simp [*]; done), by repeat (first | exact Drawn0.refl _ | apply Drawn0.step)⟩
                                    · rw [if_neg c39] at H
                                      have c39b0 : (a0.toList == ([116, 114, 117, 101] : List UInt8)) = false := beq_eq_false_iff_ne.mpr c39
                                      have c39b1 : (a0.toList != ([116, 114, 117, 101] : List UInt8)) = true := bne_iff_ne.mpr c39
                                      by_cases c40 : a0.toList = ([102, 97, 108, 115, 101] : List UInt8)
                                      · rw [if_pos c40] at H
                                        have c40b0 : (a0.toList == ([102, 97, 108, 115, 101] : List UInt8)) = true := beq_iff_eq.mpr c40
                                        have c40b1 : (a0.toList != ([102, 97, 108, 115, 101] : List UInt8)) = false := bne_eq_false_iff_eq.mpr c40
                                        clear c40
                                        obtain rfl := Option.some.inj H
                                        go_wp2
                                        go_ret
                                        exact ⟨by first | rfl | (simp; done) | (simp [*]; done), by repeat (first | exact Drawn0.refl _ | apply Drawn0.step)⟩
                                      · rw [if_neg c40] at H
                                        have c40b0 : (a0.toList == ([102, 97, 108, 115, 101] : List UInt8)) = false := beq_eq_false_iff_ne.mpr c40
                                        have c40b1 : (a0.toList != ([102, 97, 108, 115, 101] : List UInt8)) = true := bne_iff_ne.mpr c40
                                        obtain rfl := Option.some.inj H
                                        go_wp2
                                        go_ret
                                        exact ⟨by first | rfl | (simp; done) | (simp [*]; done), by repeat (first | exact Drawn0.refl _ | apply Drawn0.step)⟩

end Go.Proofs.YticmmpiffekbiaaDoor.Px
