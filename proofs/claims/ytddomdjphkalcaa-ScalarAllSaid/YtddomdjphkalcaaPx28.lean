-- Printed by myprint.py, a program of this session's repo, over the kit's printer; hand texts of the session stand in it
import Derived.Test.YtddomdjphkalcaaPx0
import Derived.Test.YtddomdjphkalcaaPx2
import Derived.Test.YtddomdjphkalcaaPx11
import Derived.Test.YtddomdjphkalcaaPx14
import Derived.Test.YtddomdjphkalcaaPx22
import Derived.Test.YtddomdjphkalcaaPx23
import Derived.Test.YtddomdjphkalcaaPx24
namespace Go.Proofs.Ytddomdjphkalcaa.Px
open Go.RowKit Go.Proofs.YtddomdjphkalcaaW.PrintWords Go.Proofs.YtddomdjphkalcaaW.PrintLast Go.Proofs.YtddomdjphkalcaaW.PrintMore
attribute [local go_sem] max2_int min2_int max_two min_two max_three min_three max_four min_four   -- for this text's walks alone
set_option linter.unusedVariables false
set_option linter.unusedSimpArgs false

/-! ### ecdysislaw11_ScalarAll: function 13 -/
def ecdysislaw11_ScalarAll.j0 : Nat → Int → Bool → Option (Bool)
  | 0, _, _ => none
  | k + 1, x0, x9 => if x9 = true then ((scalar_Word.f x0).bind fun t256 => (if t256.toList = ([] : List UInt8) then ((scalar_Number.f x0).bind fun t257 => (if t257 = true then (some false) else ((scalar_Signed.f x0).bind fun t258 => (if t258 = true then (some false) else ((scalar_Wide.f x0).bind fun t259 => (if t259 = true then (some false) else ((scalar_May.f k x0 0).bind fun t260 => (if t260 = true then (some false) else ((ecdysislaw11_live.f k).bind fun t261 => (some t261)))))))))) else (some false))) else ((scalar_Wire.f k x0).bind fun t262 => ((scalar_Number.f x0).bind fun t263 => (if (t263 != (t262 == 2)) = true then ((scalar_Wide.f x0).bind fun t264 => (if t264 = true then ((scalar_Whole.f x0).bind fun t265 => (if t265 = true then ((scalar_May.f k x0 0).bind fun t266 => (if t266 = true then ((ecdysislaw11_live.f k).bind fun t267 => (some t267)) else (some false))) else (some false))) else ((scalar_May.f k x0 0).bind fun t268 => (if t268 = true then ((ecdysislaw11_live.f k).bind fun t269 => (some t269)) else (some false))))) else (some false))))
def ecdysislaw11_ScalarAll.f (k : Nat) (a0 : Int) : Option (Bool) := if a0 < 1 then (ecdysislaw11_ScalarAll.j0 k a0 true) else (ecdysislaw11_ScalarAll.j0 k a0 (decide (a0 > 15)))
theorem ecdysislaw11_ScalarAll.mono_l : ∀ k, (∀ y0 y1, LeO (ecdysislaw11_ScalarAll.j0 k y0 y1) (ecdysislaw11_ScalarAll.j0 (k + 1) y0 y1))
  | 0 => fun _ _ r h => by simp [ecdysislaw11_ScalarAll.j0] at h
  | k + 1 => by
    have ih0 := ecdysislaw11_ScalarAll.mono_l k
    · intro y0 y1
      unfold ecdysislaw11_ScalarAll.j0
      repeat' first
      | (with_reducible exact ih0 _ _)
      | (with_reducible exact ecdysislaw11_live.mono _)
      | (with_reducible exact scalar_May.mono _ _ _)
      | (with_reducible exact scalar_Wire.mono _ _)
      | (with_reducible exact LeO.refl _)
      | (with_reducible exact LeO.none _)
      | (with_reducible refine LeO.ite ?_ ?_)
      | (with_reducible refine LeO.bind ?_ (fun _ => ?_))
      | exact ih0 _ _
      | exact ecdysislaw11_live.mono _
      | exact scalar_May.mono _ _ _
      | exact scalar_Wire.mono _ _
      | exact LeO.none _
      | refine LeO.ite ?_ ?_
      | refine LeO.bind ?_ (fun _ => ?_)
theorem ecdysislaw11_ScalarAll.mono : ∀ a0 k, LeO (ecdysislaw11_ScalarAll.f k a0) (ecdysislaw11_ScalarAll.f (k + 1) a0) := by
  intro a0 k
  have ih0 := ecdysislaw11_ScalarAll.mono_l k
  unfold ecdysislaw11_ScalarAll.f
  repeat' first
      | (with_reducible exact ih0 _ _)
      | (with_reducible exact ecdysislaw11_live.mono _)
      | (with_reducible exact scalar_May.mono _ _ _)
      | (with_reducible exact scalar_Wire.mono _ _)
      | (with_reducible exact LeO.refl _)
      | (with_reducible exact LeO.none _)
      | (with_reducible refine LeO.ite ?_ ?_)
      | (with_reducible refine LeO.bind ?_ (fun _ => ?_))
      | exact ih0 _ _
      | exact ecdysislaw11_live.mono _
      | exact scalar_May.mono _ _ _
      | exact scalar_Wire.mono _ _
      | exact LeO.none _
      | refine LeO.ite ?_ ?_
      | refine LeO.bind ?_ (fun _ => ?_)
set_option maxHeartbeats 8000000 in
set_option maxRecDepth 100000 in
theorem ecdysislaw11_ScalarAll.calls (k : Nat) (a0 : Int) (r : Bool) (w : World) (h : ecdysislaw11_ScalarAll.f k a0 = some r) :
    Calls Try.prog 13 #[.int .i64 a0] w fun e w' => e = .returned (.bool r) ∧ Drawn0 w w' := by
  have H : (if a0 < 1 then (ecdysislaw11_ScalarAll.j0 k a0 true) else (ecdysislaw11_ScalarAll.j0 k a0 (decide (a0 > 15)))) = some r := h
  clear h
  have HC2 := Aside0.mk H
  clear H
  go_enter Try.func13, Try.ntmps13
  go_upto_region 1 with (fail)
  go_cut [9] (fun v9 wc => ∃ (kq : Nat) (x9_1 : Bool), v9 = .bool x9_1 ∧ Aside0 (ecdysislaw11_ScalarAll.j0 kq a0 x9_1 = some r) ∧ Aside0 (kq ≤ k) ∧ Drawn0 w wc)
  case first =>
    have H := HC2.out
    clear HC2
    by_cases c3 : a0 < 1
    · rw [if_pos c3] at H
      have c3b0 : decide (a0 < 1) = true := decide_eq_true c3
      clear c3
      (first | rw [c3b0] | (simp only [i64_w, i32_w]; rw [c3b0]) | skip)
      have H' := Aside0.mk H
      clear H
      go_wp2
      go_meet
      case rel => exact ⟨_, (true), (by first | rfl | (simp; done) | (simp [*]; done)), H', ⟨by first | omega | exact Nat.le_refl _⟩, by repeat (first | exact Drawn0.refl _ | apply Drawn0.step)⟩
    · rw [if_neg c3] at H
      have c3b0 : decide (a0 < 1) = false := decide_eq_false c3
      clear c3
      (first | rw [c3b0] | (simp only [i64_w, i32_w]; rw [c3b0]) | skip)
      have H' := Aside0.mk H
      clear H
      go_wp2
      go_meet
      case rel => exact ⟨_, (decide (a0 > 15)), (by first | rfl | (simp; done) | (simp [*]; done)), H', ⟨by first | omega | exact Nat.le_refl _⟩, by repeat (first | exact Drawn0.refl _ | apply Drawn0.step)⟩
  case rest =>
    clear HC2
    try clear c1
    try clear p2
    try clear c3
    try clear c3b0
    obtain ⟨kq, x9_1, rfl, HA, HJ1, ⟨mc1, rfl⟩⟩ := hcut
    cases kq with
    | zero => exact absurd HA.out (by simp [ecdysislaw11_ScalarAll.j0])
    | succ kj1 =>
      have H := HA.out
      clear HA
      simp only [ecdysislaw11_ScalarAll.j0] at H
      by_cases c4 : x9_1 = true
      · subst c4
        have H1 : ((scalar_Word.f a0).bind fun t256 => (if t256.toList = ([] : List UInt8) then ((scalar_Number.f a0).bind fun t257 => (if t257 = true then (some false) else ((scalar_Signed.f a0).bind fun t258 => (if t258 = true then (some false) else ((scalar_Wide.f a0).bind fun t259 => (if t259 = true then (some false) else ((scalar_May.f kj1 a0 0).bind fun t260 => (if t260 = true then (some false) else ((ecdysislaw11_live.f kj1).bind fun t261 => (some t261)))))))))) else (some false))) = some r := by rw [if_pos rfl] at H; exact H
        clear H
        have H := H1
        clear H1
        replace H := Option.bind_eq_some_iff.mp H
        obtain ⟨t256, A50, H⟩ := H
        replace H : (if t256.toList = ([] : List UInt8) then ((scalar_Number.f a0).bind fun t257 => (if t257 = true then (some false) else ((scalar_Signed.f a0).bind fun t258 => (if t258 = true then (some false) else ((scalar_Wide.f a0).bind fun t259 => (if t259 = true then (some false) else ((scalar_May.f kj1 a0 0).bind fun t260 => (if t260 = true then (some false) else ((ecdysislaw11_live.f kj1).bind fun t261 => (some t261)))))))))) else (some false)) = some r := H
        have A5 := Aside0.mk A50
        clear A50
        by_cases c6 : t256.toList = ([] : List UInt8)
        · rw [if_pos c6] at H
          have c6b0 : (t256.toList == ([] : List UInt8)) = true := beq_iff_eq.mpr c6
          have c6b1 : (t256.toList != ([] : List UInt8)) = false := bne_eq_false_iff_eq.mpr c6
          clear c6
          replace H := Option.bind_eq_some_iff.mp H
          obtain ⟨t257, A70, H⟩ := H
          replace H : (if t257 = true then (some false) else ((scalar_Signed.f a0).bind fun t258 => (if t258 = true then (some false) else ((scalar_Wide.f a0).bind fun t259 => (if t259 = true then (some false) else ((scalar_May.f kj1 a0 0).bind fun t260 => (if t260 = true then (some false) else ((ecdysislaw11_live.f kj1).bind fun t261 => (some t261))))))))) = some r := H
          have A7 := Aside0.mk A70
          clear A70
          by_cases c8 : t257 = true
          · subst c8
            have H1 : (some false) = some r := by rw [if_pos rfl] at H; exact H
            clear H
            have H := H1
            clear H1
            obtain rfl := Option.some.inj H
            go_wp2_with (first | ((with_reducible refine gate_callee (f := 39) rfl ?_); refine goesL_ (some 11) rfl rfl Try.func39 (by kernel_rfl) rfl #[.int .i64 a0] rfl (by (try simp only [List.map_toArray, List.map_cons, List.map_nil]); first | done | rfl | (simp only [List.length_drop, List.length_take]; rfl)) ?_; (with_reducible refine (scalar_Word.calls a0 t256 _ A5.out).mono ?_); rintro e w' ⟨rfl, ⟨nd, rfl⟩⟩; refine ⟨_, rfl, ?_⟩) | (go_at_call 44; (with_reducible refine (scalar_Number.calls a0 true _ A7.out).mono ?_); rintro e w' ⟨rfl, ⟨nd, rfl⟩⟩))
            go_ret
            exact ⟨by first | rfl | (simp; done) | (simp [*]; done), by repeat (first | exact Drawn0.refl _ | apply Drawn0.step)⟩
          · replace c8 := Bool.eq_false_iff.mpr c8
            subst c8
            have H1 : ((scalar_Signed.f a0).bind fun t258 => (if t258 = true then (some false) else ((scalar_Wide.f a0).bind fun t259 => (if t259 = true then (some false) else ((scalar_May.f kj1 a0 0).bind fun t260 => (if t260 = true then (some false) else ((ecdysislaw11_live.f kj1).bind fun t261 => (some t261)))))))) = some r := by rw [if_neg (show ¬ (false = true) by decide)] at H; exact H
            clear H
            have H := H1
            clear H1
            replace H := Option.bind_eq_some_iff.mp H
            obtain ⟨t258, A90, H⟩ := H
            replace H : (if t258 = true then (some false) else ((scalar_Wide.f a0).bind fun t259 => (if t259 = true then (some false) else ((scalar_May.f kj1 a0 0).bind fun t260 => (if t260 = true then (some false) else ((ecdysislaw11_live.f kj1).bind fun t261 => (some t261))))))) = some r := H
            have A9 := Aside0.mk A90
            clear A90
            by_cases c10 : t258 = true
            · subst c10
              have H1 : (some false) = some r := by rw [if_pos rfl] at H; exact H
              clear H
              have H := H1
              clear H1
              obtain rfl := Option.some.inj H
              go_wp2_with (first | ((with_reducible refine gate_callee (f := 39) rfl ?_); refine goesL_ (some 11) rfl rfl Try.func39 (by kernel_rfl) rfl #[.int .i64 a0] rfl (by (try simp only [List.map_toArray, List.map_cons, List.map_nil]); first | done | rfl | (simp only [List.length_drop, List.length_take]; rfl)) ?_; (with_reducible refine (scalar_Word.calls a0 t256 _ A5.out).mono ?_); rintro e w' ⟨rfl, ⟨nd, rfl⟩⟩; refine ⟨_, rfl, ?_⟩) | (go_at_call 44; (with_reducible refine (scalar_Number.calls a0 false _ A7.out).mono ?_); rintro e w' ⟨rfl, ⟨nd, rfl⟩⟩) | (go_at_call 46; (with_reducible refine (scalar_Signed.calls a0 true _ A9.out).mono ?_); rintro e w' ⟨rfl, ⟨nd, rfl⟩⟩))
              go_ret
              exact ⟨by first | rfl | (simp; done) | (simp [*]; done), by repeat (first | exact Drawn0.refl _ | apply Drawn0.step)⟩
            · replace c10 := Bool.eq_false_iff.mpr c10
              subst c10
              have H1 : ((scalar_Wide.f a0).bind fun t259 => (if t259 = true then (some false) else ((scalar_May.f kj1 a0 0).bind fun t260 => (if t260 = true then (some false) else ((ecdysislaw11_live.f kj1).bind fun t261 => (some t261)))))) = some r := by rw [if_neg (show ¬ (false = true) by decide)] at H; exact H
              clear H
              have H := H1
              clear H1
              replace H := Option.bind_eq_some_iff.mp H
              obtain ⟨t259, A110, H⟩ := H
              replace H : (if t259 = true then (some false) else ((scalar_May.f kj1 a0 0).bind fun t260 => (if t260 = true then (some false) else ((ecdysislaw11_live.f kj1).bind fun t261 => (some t261))))) = some r := H
              have A11 := Aside0.mk A110
              clear A110
              by_cases c12 : t259 = true
              · subst c12
                have H1 : (some false) = some r := by rw [if_pos rfl] at H; exact H
                clear H
                have H := H1
                clear H1
                obtain rfl := Option.some.inj H
                go_wp2_with (first | ((with_reducible refine gate_callee (f := 39) rfl ?_); refine goesL_ (some 11) rfl rfl Try.func39 (by kernel_rfl) rfl #[.int .i64 a0] rfl (by (try simp only [List.map_toArray, List.map_cons, List.map_nil]); first | done | rfl | (simp only [List.length_drop, List.length_take]; rfl)) ?_; (with_reducible refine (scalar_Word.calls a0 t256 _ A5.out).mono ?_); rintro e w' ⟨rfl, ⟨nd, rfl⟩⟩; refine ⟨_, rfl, ?_⟩) | (go_at_call 44; (with_reducible refine (scalar_Number.calls a0 false _ A7.out).mono ?_); rintro e w' ⟨rfl, ⟨nd, rfl⟩⟩) | (go_at_call 46; (with_reducible refine (scalar_Signed.calls a0 false _ A9.out).mono ?_); rintro e w' ⟨rfl, ⟨nd, rfl⟩⟩) | (go_at_call 48; (with_reducible refine (scalar_Wide.calls a0 true _ A11.out).mono ?_); rintro e w' ⟨rfl, ⟨nd, rfl⟩⟩))
                go_ret
                exact ⟨by first | rfl | (simp; done) | (simp [*]; done), by repeat (first | exact Drawn0.refl _ | apply Drawn0.step)⟩
              · replace c12 := Bool.eq_false_iff.mpr c12
                subst c12
                have H1 : ((scalar_May.f kj1 a0 0).bind fun t260 => (if t260 = true then (some false) else ((ecdysislaw11_live.f kj1).bind fun t261 => (some t261)))) = some r := by rw [if_neg (show ¬ (false = true) by decide)] at H; exact H
                clear H
                have H := H1
                clear H1
                replace H := Option.bind_eq_some_iff.mp H
                obtain ⟨t260, A130, H⟩ := H
                replace H : (if t260 = true then (some false) else ((ecdysislaw11_live.f kj1).bind fun t261 => (some t261))) = some r := H
                have A13 := Aside0.mk A130
                clear A130
                by_cases c14 : t260 = true
                · subst c14
                  have H1 : (some false) = some r := by rw [if_pos rfl] at H; exact H
                  clear H
                  have H := H1
                  clear H1
                  obtain rfl := Option.some.inj H
                  go_wp2_with (first | ((with_reducible refine gate_callee (f := 39) rfl ?_); refine goesL_ (some 11) rfl rfl Try.func39 (by kernel_rfl) rfl #[.int .i64 a0] rfl (by (try simp only [List.map_toArray, List.map_cons, List.map_nil]); first | done | rfl | (simp only [List.length_drop, List.length_take]; rfl)) ?_; (with_reducible refine (scalar_Word.calls a0 t256 _ A5.out).mono ?_); rintro e w' ⟨rfl, ⟨nd, rfl⟩⟩; refine ⟨_, rfl, ?_⟩) | (go_at_call 44; (with_reducible refine (scalar_Number.calls a0 false _ A7.out).mono ?_); rintro e w' ⟨rfl, ⟨nd, rfl⟩⟩) | (go_at_call 46; (with_reducible refine (scalar_Signed.calls a0 false _ A9.out).mono ?_); rintro e w' ⟨rfl, ⟨nd, rfl⟩⟩) | (go_at_call 48; (with_reducible refine (scalar_Wide.calls a0 false _ A11.out).mono ?_); rintro e w' ⟨rfl, ⟨nd, rfl⟩⟩) | (go_at_call 49; (with_reducible refine (scalar_May.calls kj1 a0 0 true _ A13.out).mono ?_); rintro e w' ⟨rfl, ⟨nd, rfl⟩⟩))
                  go_ret
                  exact ⟨by first | rfl | (simp; done) | (simp [*]; done), by repeat (first | exact Drawn0.refl _ | apply Drawn0.step)⟩
                · replace c14 := Bool.eq_false_iff.mpr c14
                  subst c14
                  have H1 : ((ecdysislaw11_live.f kj1).bind fun t261 => (some t261)) = some r := by rw [if_neg (show ¬ (false = true) by decide)] at H; exact H
                  clear H
                  have H := H1
                  clear H1
                  replace H := Option.bind_eq_some_iff.mp H
                  obtain ⟨t261, A150, H⟩ := H
                  replace H : (some t261) = some r := H
                  have A15 := Aside0.mk A150
                  clear A150
                  obtain rfl := Option.some.inj H
                  go_wp2_with (first | ((with_reducible refine gate_callee (f := 39) rfl ?_); refine goesL_ (some 11) rfl rfl Try.func39 (by kernel_rfl) rfl #[.int .i64 a0] rfl (by (try simp only [List.map_toArray, List.map_cons, List.map_nil]); first | done | rfl | (simp only [List.length_drop, List.length_take]; rfl)) ?_; (with_reducible refine (scalar_Word.calls a0 t256 _ A5.out).mono ?_); rintro e w' ⟨rfl, ⟨nd, rfl⟩⟩; refine ⟨_, rfl, ?_⟩) | (go_at_call 44; (with_reducible refine (scalar_Number.calls a0 false _ A7.out).mono ?_); rintro e w' ⟨rfl, ⟨nd, rfl⟩⟩) | (go_at_call 46; (with_reducible refine (scalar_Signed.calls a0 false _ A9.out).mono ?_); rintro e w' ⟨rfl, ⟨nd, rfl⟩⟩) | (go_at_call 48; (with_reducible refine (scalar_Wide.calls a0 false _ A11.out).mono ?_); rintro e w' ⟨rfl, ⟨nd, rfl⟩⟩) | (go_at_call 49; (with_reducible refine (scalar_May.calls kj1 a0 0 false _ A13.out).mono ?_); rintro e w' ⟨rfl, ⟨nd, rfl⟩⟩) | (go_at_call 36; (with_reducible refine (ecdysislaw11_live.calls kj1  t261 _ A15.out).mono ?_); rintro e w' ⟨rfl, ⟨nd, rfl⟩⟩))
                  go_ret
                  exact ⟨by first | rfl | (simp; done) | (simp [*]; done), by repeat (first | exact Drawn0.refl _ | apply Drawn0.step)⟩
        · rw [if_neg c6] at H
          have c6b0 : (t256.toList == ([] : List UInt8)) = false := beq_eq_false_iff_ne.mpr c6
          have c6b1 : (t256.toList != ([] : List UInt8)) = true := bne_iff_ne.mpr c6
          obtain rfl := Option.some.inj H
          go_wp2_with (first | ((with_reducible refine gate_callee (f := 39) rfl ?_); refine goesL_ (some 11) rfl rfl Try.func39 (by kernel_rfl) rfl #[.int .i64 a0] rfl (by (try simp only [List.map_toArray, List.map_cons, List.map_nil]); first | done | rfl | (simp only [List.length_drop, List.length_take]; rfl)) ?_; (with_reducible refine (scalar_Word.calls a0 t256 _ A5.out).mono ?_); rintro e w' ⟨rfl, ⟨nd, rfl⟩⟩; refine ⟨_, rfl, ?_⟩))
          go_ret
          exact ⟨by first | rfl | (simp; done) | (simp [*]; done), by repeat (first | exact Drawn0.refl _ | apply Drawn0.step)⟩
      · replace c4 := Bool.eq_false_iff.mpr c4
        subst c4
        have H1 : ((scalar_Wire.f kj1 a0).bind fun t262 => ((scalar_Number.f a0).bind fun t263 => (if (t263 != (t262 == 2)) = true then ((scalar_Wide.f a0).bind fun t264 => (if t264 = true then ((scalar_Whole.f a0).bind fun t265 => (if t265 = true then ((scalar_May.f kj1 a0 0).bind fun t266 => (if t266 = true then ((ecdysislaw11_live.f kj1).bind fun t267 => (some t267)) else (some false))) else (some false))) else ((scalar_May.f kj1 a0 0).bind fun t268 => (if t268 = true then ((ecdysislaw11_live.f kj1).bind fun t269 => (some t269)) else (some false))))) else (some false)))) = some r := by rw [if_neg (show ¬ (false = true) by decide)] at H; exact H
        clear H
        have H := H1
        clear H1
        replace H := Option.bind_eq_some_iff.mp H
        obtain ⟨t262, A160, H⟩ := H
        replace H : ((scalar_Number.f a0).bind fun t263 => (if (t263 != (t262 == 2)) = true then ((scalar_Wide.f a0).bind fun t264 => (if t264 = true then ((scalar_Whole.f a0).bind fun t265 => (if t265 = true then ((scalar_May.f kj1 a0 0).bind fun t266 => (if t266 = true then ((ecdysislaw11_live.f kj1).bind fun t267 => (some t267)) else (some false))) else (some false))) else ((scalar_May.f kj1 a0 0).bind fun t268 => (if t268 = true then ((ecdysislaw11_live.f kj1).bind fun t269 => (some t269)) else (some false))))) else (some false))) = some r := H
        have A16 := Aside0.mk A160
        clear A160
        replace H := Option.bind_eq_some_iff.mp H
        obtain ⟨t263, A170, H⟩ := H
        replace H : (if (t263 != (t262 == 2)) = true then ((scalar_Wide.f a0).bind fun t264 => (if t264 = true then ((scalar_Whole.f a0).bind fun t265 => (if t265 = true then ((scalar_May.f kj1 a0 0).bind fun t266 => (if t266 = true then ((ecdysislaw11_live.f kj1).bind fun t267 => (some t267)) else (some false))) else (some false))) else ((scalar_May.f kj1 a0 0).bind fun t268 => (if t268 = true then ((ecdysislaw11_live.f kj1).bind fun t269 => (some t269)) else (some false))))) else (some false)) = some r := H
        have A17 := Aside0.mk A170
        clear A170
        by_cases c18 : (t263 != (t262 == 2)) = true
        · rw [if_pos c18] at H
          have c18b0 : (t263 != (t262 == 2)) = true := c18
          (try (have c18b1 : decide (t263 = (t262 == 2)) = false := by simpa using c18))
          (try (have c18b2 : (t263 == (t262 == 2)) = false := by simpa using c18))
          (try (have c18b3 : ¬ (t263 = (t262 == 2)) := by simpa using c18))
          clear c18
          replace H := Option.bind_eq_some_iff.mp H
          obtain ⟨t264, A190, H⟩ := H
          replace H : (if t264 = true then ((scalar_Whole.f a0).bind fun t265 => (if t265 = true then ((scalar_May.f kj1 a0 0).bind fun t266 => (if t266 = true then ((ecdysislaw11_live.f kj1).bind fun t267 => (some t267)) else (some false))) else (some false))) else ((scalar_May.f kj1 a0 0).bind fun t268 => (if t268 = true then ((ecdysislaw11_live.f kj1).bind fun t269 => (some t269)) else (some false)))) = some r := H
          have A19 := Aside0.mk A190
          clear A190
          by_cases c20 : t264 = true
          · subst c20
            have H1 : ((scalar_Whole.f a0).bind fun t265 => (if t265 = true then ((scalar_May.f kj1 a0 0).bind fun t266 => (if t266 = true then ((ecdysislaw11_live.f kj1).bind fun t267 => (some t267)) else (some false))) else (some false))) = some r := by rw [if_pos rfl] at H; exact H
            clear H
            have H := H1
            clear H1
            replace H := Option.bind_eq_some_iff.mp H
            obtain ⟨t265, A210, H⟩ := H
            replace H : (if t265 = true then ((scalar_May.f kj1 a0 0).bind fun t266 => (if t266 = true then ((ecdysislaw11_live.f kj1).bind fun t267 => (some t267)) else (some false))) else (some false)) = some r := H
            have A21 := Aside0.mk A210
            clear A210
            by_cases c22 : t265 = true
            · subst c22
              have H1 : ((scalar_May.f kj1 a0 0).bind fun t266 => (if t266 = true then ((ecdysislaw11_live.f kj1).bind fun t267 => (some t267)) else (some false))) = some r := by rw [if_pos rfl] at H; exact H
              clear H
              have H := H1
              clear H1
              replace H := Option.bind_eq_some_iff.mp H
              obtain ⟨t266, A230, H⟩ := H
              replace H : (if t266 = true then ((ecdysislaw11_live.f kj1).bind fun t267 => (some t267)) else (some false)) = some r := H
              have A23 := Aside0.mk A230
              clear A230
              by_cases c24 : t266 = true
              · subst c24
                have H1 : ((ecdysislaw11_live.f kj1).bind fun t267 => (some t267)) = some r := by rw [if_pos rfl] at H; exact H
                clear H
                have H := H1
                clear H1
                replace H := Option.bind_eq_some_iff.mp H
                obtain ⟨t267, A250, H⟩ := H
                replace H : (some t267) = some r := H
                have A25 := Aside0.mk A250
                clear A250
                obtain rfl := Option.some.inj H
                go_wp2_with (first | ((with_reducible refine gate_callee (f := 41) rfl ?_); refine goesL_ (some 37) rfl rfl Try.func41 (by kernel_rfl) rfl #[.int .i64 a0] rfl (by (try simp only [List.map_toArray, List.map_cons, List.map_nil]); first | done | rfl | (simp only [List.length_drop, List.length_take]; rfl)) ?_; (with_reducible refine (scalar_Wire.calls kj1 a0 t262 _ A16.out).mono ?_); rintro e w' ⟨rfl, ⟨nd, rfl⟩⟩; refine ⟨_, rfl, ?_⟩) | ((with_reducible refine gate_callee (f := 44) rfl ?_); refine goesL_ (some 40) rfl rfl Try.func44 (by kernel_rfl) rfl #[.int .i64 a0] rfl (by (try simp only [List.map_toArray, List.map_cons, List.map_nil]); first | done | rfl | (simp only [List.length_drop, List.length_take]; rfl)) ?_; (with_reducible refine (scalar_Number.calls a0 t263 _ A17.out).mono ?_); rintro e w' ⟨rfl, ⟨nd, rfl⟩⟩; refine ⟨_, rfl, ?_⟩) | (go_at_call 48; (with_reducible refine (scalar_Wide.calls a0 true _ A19.out).mono ?_); rintro e w' ⟨rfl, ⟨nd, rfl⟩⟩) | (go_at_call 43; (with_reducible refine (scalar_Whole.calls a0 true _ A21.out).mono ?_); rintro e w' ⟨rfl, ⟨nd, rfl⟩⟩) | (go_at_call 49; (with_reducible refine (scalar_May.calls kj1 a0 0 true _ A23.out).mono ?_); rintro e w' ⟨rfl, ⟨nd, rfl⟩⟩) | (go_at_call 36; (with_reducible refine (ecdysislaw11_live.calls kj1  t267 _ A25.out).mono ?_); rintro e w' ⟨rfl, ⟨nd, rfl⟩⟩))
                go_ret
                exact ⟨by first | rfl | (simp; done) | (simp [*]; done), by repeat (first | exact Drawn0.refl _ | apply Drawn0.step)⟩
              · replace c24 := Bool.eq_false_iff.mpr c24
                subst c24
                have H1 : (some false) = some r := by rw [if_neg (show ¬ (false = true) by decide)] at H; exact H
                clear H
                have H := H1
                clear H1
                obtain rfl := Option.some.inj H
                go_wp2_with (first | ((with_reducible refine gate_callee (f := 41) rfl ?_); refine goesL_ (some 37) rfl rfl Try.func41 (by kernel_rfl) rfl #[.int .i64 a0] rfl (by (try simp only [List.map_toArray, List.map_cons, List.map_nil]); first | done | rfl | (simp only [List.length_drop, List.length_take]; rfl)) ?_; (with_reducible refine (scalar_Wire.calls kj1 a0 t262 _ A16.out).mono ?_); rintro e w' ⟨rfl, ⟨nd, rfl⟩⟩; refine ⟨_, rfl, ?_⟩) | ((with_reducible refine gate_callee (f := 44) rfl ?_); refine goesL_ (some 40) rfl rfl Try.func44 (by kernel_rfl) rfl #[.int .i64 a0] rfl (by (try simp only [List.map_toArray, List.map_cons, List.map_nil]); first | done | rfl | (simp only [List.length_drop, List.length_take]; rfl)) ?_; (with_reducible refine (scalar_Number.calls a0 t263 _ A17.out).mono ?_); rintro e w' ⟨rfl, ⟨nd, rfl⟩⟩; refine ⟨_, rfl, ?_⟩) | (go_at_call 48; (with_reducible refine (scalar_Wide.calls a0 true _ A19.out).mono ?_); rintro e w' ⟨rfl, ⟨nd, rfl⟩⟩) | (go_at_call 43; (with_reducible refine (scalar_Whole.calls a0 true _ A21.out).mono ?_); rintro e w' ⟨rfl, ⟨nd, rfl⟩⟩) | (go_at_call 49; (with_reducible refine (scalar_May.calls kj1 a0 0 false _ A23.out).mono ?_); rintro e w' ⟨rfl, ⟨nd, rfl⟩⟩))
                go_ret
                exact ⟨by first | rfl | (simp; done) | (simp [*]; done), by repeat (first | exact Drawn0.refl _ | apply Drawn0.step)⟩
            · replace c22 := Bool.eq_false_iff.mpr c22
              subst c22
              have H1 : (some false) = some r := by rw [if_neg (show ¬ (false = true) by decide)] at H; exact H
              clear H
              have H := H1
              clear H1
              obtain rfl := Option.some.inj H
              go_wp2_with (first | ((with_reducible refine gate_callee (f := 41) rfl ?_); refine goesL_ (some 37) rfl rfl Try.func41 (by kernel_rfl) rfl #[.int .i64 a0] rfl (by (try simp only [List.map_toArray, List.map_cons, List.map_nil]); first | done | rfl | (simp only [List.length_drop, List.length_take]; rfl)) ?_; (with_reducible refine (scalar_Wire.calls kj1 a0 t262 _ A16.out).mono ?_); rintro e w' ⟨rfl, ⟨nd, rfl⟩⟩; refine ⟨_, rfl, ?_⟩) | ((with_reducible refine gate_callee (f := 44) rfl ?_); refine goesL_ (some 40) rfl rfl Try.func44 (by kernel_rfl) rfl #[.int .i64 a0] rfl (by (try simp only [List.map_toArray, List.map_cons, List.map_nil]); first | done | rfl | (simp only [List.length_drop, List.length_take]; rfl)) ?_; (with_reducible refine (scalar_Number.calls a0 t263 _ A17.out).mono ?_); rintro e w' ⟨rfl, ⟨nd, rfl⟩⟩; refine ⟨_, rfl, ?_⟩) | (go_at_call 48; (with_reducible refine (scalar_Wide.calls a0 true _ A19.out).mono ?_); rintro e w' ⟨rfl, ⟨nd, rfl⟩⟩) | (go_at_call 43; (with_reducible refine (scalar_Whole.calls a0 false _ A21.out).mono ?_); rintro e w' ⟨rfl, ⟨nd, rfl⟩⟩))
              go_ret
              exact ⟨by first | rfl | (simp; done) | (simp [*]; done), by repeat (first | exact Drawn0.refl _ | apply Drawn0.step)⟩
          · replace c20 := Bool.eq_false_iff.mpr c20
            subst c20
            have H1 : ((scalar_May.f kj1 a0 0).bind fun t268 => (if t268 = true then ((ecdysislaw11_live.f kj1).bind fun t269 => (some t269)) else (some false))) = some r := by rw [if_neg (show ¬ (false = true) by decide)] at H; exact H
            clear H
            have H := H1
            clear H1
            replace H := Option.bind_eq_some_iff.mp H
            obtain ⟨t268, A260, H⟩ := H
            replace H : (if t268 = true then ((ecdysislaw11_live.f kj1).bind fun t269 => (some t269)) else (some false)) = some r := H
            have A26 := Aside0.mk A260
            clear A260
            by_cases c27 : t268 = true
            · subst c27
              have H1 : ((ecdysislaw11_live.f kj1).bind fun t269 => (some t269)) = some r := by rw [if_pos rfl] at H; exact H
              clear H
              have H := H1
              clear H1
              replace H := Option.bind_eq_some_iff.mp H
              obtain ⟨t269, A280, H⟩ := H
              replace H : (some t269) = some r := H
              have A28 := Aside0.mk A280
              clear A280
              obtain rfl := Option.some.inj H
              go_wp2_with (first | ((with_reducible refine gate_callee (f := 41) rfl ?_); refine goesL_ (some 37) rfl rfl Try.func41 (by kernel_rfl) rfl #[.int .i64 a0] rfl (by (try simp only [List.map_toArray, List.map_cons, List.map_nil]); first | done | rfl | (simp only [List.length_drop, List.length_take]; rfl)) ?_; (with_reducible refine (scalar_Wire.calls kj1 a0 t262 _ A16.out).mono ?_); rintro e w' ⟨rfl, ⟨nd, rfl⟩⟩; refine ⟨_, rfl, ?_⟩) | ((with_reducible refine gate_callee (f := 44) rfl ?_); refine goesL_ (some 40) rfl rfl Try.func44 (by kernel_rfl) rfl #[.int .i64 a0] rfl (by (try simp only [List.map_toArray, List.map_cons, List.map_nil]); first | done | rfl | (simp only [List.length_drop, List.length_take]; rfl)) ?_; (with_reducible refine (scalar_Number.calls a0 t263 _ A17.out).mono ?_); rintro e w' ⟨rfl, ⟨nd, rfl⟩⟩; refine ⟨_, rfl, ?_⟩) | (go_at_call 48; (with_reducible refine (scalar_Wide.calls a0 false _ A19.out).mono ?_); rintro e w' ⟨rfl, ⟨nd, rfl⟩⟩) | (go_at_call 49; (with_reducible refine (scalar_May.calls kj1 a0 0 true _ A26.out).mono ?_); rintro e w' ⟨rfl, ⟨nd, rfl⟩⟩) | (go_at_call 36; (with_reducible refine (ecdysislaw11_live.calls kj1  t269 _ A28.out).mono ?_); rintro e w' ⟨rfl, ⟨nd, rfl⟩⟩))
              go_ret
              exact ⟨by first | rfl | (simp; done) | (simp [*]; done), by repeat (first | exact Drawn0.refl _ | apply Drawn0.step)⟩
            · replace c27 := Bool.eq_false_iff.mpr c27
              subst c27
              have H1 : (some false) = some r := by rw [if_neg (show ¬ (false = true) by decide)] at H; exact H
              clear H
              have H := H1
              clear H1
              obtain rfl := Option.some.inj H
              go_wp2_with (first | ((with_reducible refine gate_callee (f := 41) rfl ?_); refine goesL_ (some 37) rfl rfl Try.func41 (by kernel_rfl) rfl #[.int .i64 a0] rfl (by (try simp only [List.map_toArray, List.map_cons, List.map_nil]); first | done | rfl | (simp only [List.length_drop, List.length_take]; rfl)) ?_; (with_reducible refine (scalar_Wire.calls kj1 a0 t262 _ A16.out).mono ?_); rintro e w' ⟨rfl, ⟨nd, rfl⟩⟩; refine ⟨_, rfl, ?_⟩) | ((with_reducible refine gate_callee (f := 44) rfl ?_); refine goesL_ (some 40) rfl rfl Try.func44 (by kernel_rfl) rfl #[.int .i64 a0] rfl (by (try simp only [List.map_toArray, List.map_cons, List.map_nil]); first | done | rfl | (simp only [List.length_drop, List.length_take]; rfl)) ?_; (with_reducible refine (scalar_Number.calls a0 t263 _ A17.out).mono ?_); rintro e w' ⟨rfl, ⟨nd, rfl⟩⟩; refine ⟨_, rfl, ?_⟩) | (go_at_call 48; (with_reducible refine (scalar_Wide.calls a0 false _ A19.out).mono ?_); rintro e w' ⟨rfl, ⟨nd, rfl⟩⟩) | (go_at_call 49; (with_reducible refine (scalar_May.calls kj1 a0 0 false _ A26.out).mono ?_); rintro e w' ⟨rfl, ⟨nd, rfl⟩⟩))
              go_ret
              exact ⟨by first | rfl | (simp; done) | (simp [*]; done), by repeat (first | exact Drawn0.refl _ | apply Drawn0.step)⟩
        · rw [if_neg c18] at H
          have c18b0 : (t263 != (t262 == 2)) = false := by simpa using c18
          (try (have c18b1 : decide (t263 = (t262 == 2)) = true := by simpa using c18))
          (try (have c18b2 : (t263 == (t262 == 2)) = true := by simpa using c18))
          clear c18
          obtain rfl := Option.some.inj H
          go_wp2_with (first | ((with_reducible refine gate_callee (f := 41) rfl ?_); refine goesL_ (some 37) rfl rfl Try.func41 (by kernel_rfl) rfl #[.int .i64 a0] rfl (by (try simp only [List.map_toArray, List.map_cons, List.map_nil]); first | done | rfl | (simp only [List.length_drop, List.length_take]; rfl)) ?_; (with_reducible refine (scalar_Wire.calls kj1 a0 t262 _ A16.out).mono ?_); rintro e w' ⟨rfl, ⟨nd, rfl⟩⟩; refine ⟨_, rfl, ?_⟩) | ((with_reducible refine gate_callee (f := 44) rfl ?_); refine goesL_ (some 40) rfl rfl Try.func44 (by kernel_rfl) rfl #[.int .i64 a0] rfl (by (try simp only [List.map_toArray, List.map_cons, List.map_nil]); first | done | rfl | (simp only [List.length_drop, List.length_take]; rfl)) ?_; (with_reducible refine (scalar_Number.calls a0 t263 _ A17.out).mono ?_); rintro e w' ⟨rfl, ⟨nd, rfl⟩⟩; refine ⟨_, rfl, ?_⟩))
          go_ret
          exact ⟨by first | rfl | (simp; done) | (simp [*]; done), by repeat (first | exact Drawn0.refl _ | apply Drawn0.step)⟩

/-- THE ONE PURE STATEMENT of ecdysislaw11_ScalarAll: yours. -/
def ecdysislaw11_ScalarAll.Pure : Prop := ∀ (a0 : Int), (Lit.int .i64 a0).wf = true → ∃ k, ecdysislaw11_ScalarAll.f k a0 = some true
theorem ecdysislaw11_ScalarAll.walk (P : ecdysislaw11_ScalarAll.Pure) (a0 : Int) (w : World) (w0 : (Lit.int .i64 a0).wf = true) :
    Calls Try.prog 13 #[.int .i64 a0] w fun e w' => e = .returned (.bool true) ∧ Below w.heap.size w w' := by
  obtain ⟨k, h⟩ := P a0 w0
  refine (ecdysislaw11_ScalarAll.calls k a0 true w h).mono ?_
  rintro e w' ⟨rfl, hd⟩
  exact ⟨rfl, hd.below⟩

end Go.Proofs.Ytddomdjphkalcaa.Px
