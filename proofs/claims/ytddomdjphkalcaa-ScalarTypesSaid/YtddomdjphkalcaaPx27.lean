-- Printed by myprint.py, a program of this session's repo, over the kit's printer; hand texts of the session stand in it
import Derived.Test.YtddomdjphkalcaaPx0
import Derived.Test.YtddomdjphkalcaaPx2
import Derived.Test.YtddomdjphkalcaaPx4
import Derived.Test.YtddomdjphkalcaaPx8
import Derived.Test.YtddomdjphkalcaaPx9
import Derived.Test.YtddomdjphkalcaaPx11
import Derived.Test.YtddomdjphkalcaaPx14
import Derived.Test.YtddomdjphkalcaaPx22
import Derived.Test.YtddomdjphkalcaaPx23
import Derived.Test.YtddomdjphkalcaaPx24
import Derived.Test.YtddomdjphkalcaaPx25
import Derived.Test.YtddomdjphkalcaaPx26
namespace Go.Proofs.Ytddomdjphkalcaa.Px
open Go.RowKit Go.Proofs.YtddomdjphkalcaaW.PrintWords Go.Proofs.YtddomdjphkalcaaW.PrintLast Go.Proofs.YtddomdjphkalcaaW.PrintMore
attribute [local go_sem] max2_int min2_int max_two min_two max_three min_three max_four min_four   -- for this text's walks alone
set_option linter.unusedVariables false
set_option linter.unusedSimpArgs false

/-! ### ecdysislaw11_ScalarTypes: function 12 -/
def ecdysislaw11_ScalarTypes.j0 : Nat → Int → Int → Bool → Option (Bool)
  | 0, _, _, _ => none
  | k + 1, x0, x1, x5 => if x5 = true then ((scalar_Signed.f x0).bind fun t249 => ((ecdysisref11_Signed.f x0).bind fun t250 => (if (t249 == t250) = true then ((scalar_Wide.f x0).bind fun t251 => ((ecdysisref11_Wide.f x0).bind fun t252 => (if (t251 == t252) = true then ((scalar_May.f k x0 x1).bind fun t253 => ((ecdysisref11_May.f k x0 x1).bind fun t254 => (if (t253 == t254) = true then ((ecdysislaw11_live.f k).bind fun t255 => (some t255)) else (some false)))) else (some false)))) else (some false)))) else (some false)
def ecdysislaw11_ScalarTypes.f (k : Nat) (a0 : Int) (a1 : Int) : Option (Bool) := (scalar_Word.f a0).bind fun t241 => ((ecdysisref11_Word.f a0).bind fun t242 => (if t241.toList = t242.toList then ((scalar_Wire.f k a0).bind fun t243 => ((ecdysisref11_Wire.f k a0).bind fun t244 => (if t243 = t244 then ((scalar_Whole.f a0).bind fun t245 => ((ecdysisref11_Whole.f a0).bind fun t246 => (if (t245 == t246) = true then ((scalar_Number.f a0).bind fun t247 => ((ecdysisref11_Number.f a0).bind fun t248 => (ecdysislaw11_ScalarTypes.j0 k a0 a1 (t247 == t248)))) else (ecdysislaw11_ScalarTypes.j0 k a0 a1 false)))) else (ecdysislaw11_ScalarTypes.j0 k a0 a1 false)))) else (ecdysislaw11_ScalarTypes.j0 k a0 a1 false)))
theorem ecdysislaw11_ScalarTypes.mono_l : ∀ k, (∀ y0 y1 y2, LeO (ecdysislaw11_ScalarTypes.j0 k y0 y1 y2) (ecdysislaw11_ScalarTypes.j0 (k + 1) y0 y1 y2))
  | 0 => fun _ _ _ r h => by simp [ecdysislaw11_ScalarTypes.j0] at h
  | k + 1 => by
    have ih0 := ecdysislaw11_ScalarTypes.mono_l k
    · intro y0 y1 y2
      unfold ecdysislaw11_ScalarTypes.j0
      repeat' first
      | (with_reducible exact ih0 _ _ _)
      | (with_reducible exact ecdysislaw11_live.mono _)
      | (with_reducible exact ecdysisref11_May.mono _ _ _)
      | (with_reducible exact ecdysisref11_Wire.mono _ _)
      | (with_reducible exact scalar_May.mono _ _ _)
      | (with_reducible exact scalar_Wire.mono _ _)
      | (with_reducible exact LeO.refl _)
      | (with_reducible exact LeO.none _)
      | (with_reducible refine LeO.ite ?_ ?_)
      | (with_reducible refine LeO.bind ?_ (fun _ => ?_))
      | exact ih0 _ _ _
      | exact ecdysislaw11_live.mono _
      | exact ecdysisref11_May.mono _ _ _
      | exact ecdysisref11_Wire.mono _ _
      | exact scalar_May.mono _ _ _
      | exact scalar_Wire.mono _ _
      | exact LeO.none _
      | refine LeO.ite ?_ ?_
      | refine LeO.bind ?_ (fun _ => ?_)
theorem ecdysislaw11_ScalarTypes.mono : ∀ a0 a1 k, LeO (ecdysislaw11_ScalarTypes.f k a0 a1) (ecdysislaw11_ScalarTypes.f (k + 1) a0 a1) := by
  intro a0 a1 k
  have ih0 := ecdysislaw11_ScalarTypes.mono_l k
  unfold ecdysislaw11_ScalarTypes.f
  repeat' first
      | (with_reducible exact ih0 _ _ _)
      | (with_reducible exact ecdysislaw11_live.mono _)
      | (with_reducible exact ecdysisref11_May.mono _ _ _)
      | (with_reducible exact ecdysisref11_Wire.mono _ _)
      | (with_reducible exact scalar_May.mono _ _ _)
      | (with_reducible exact scalar_Wire.mono _ _)
      | (with_reducible exact LeO.refl _)
      | (with_reducible exact LeO.none _)
      | (with_reducible refine LeO.ite ?_ ?_)
      | (with_reducible refine LeO.bind ?_ (fun _ => ?_))
      | exact ih0 _ _ _
      | exact ecdysislaw11_live.mono _
      | exact ecdysisref11_May.mono _ _ _
      | exact ecdysisref11_Wire.mono _ _
      | exact scalar_May.mono _ _ _
      | exact scalar_Wire.mono _ _
      | exact LeO.none _
      | refine LeO.ite ?_ ?_
      | refine LeO.bind ?_ (fun _ => ?_)
set_option maxHeartbeats 8000000 in
set_option maxRecDepth 100000 in
theorem ecdysislaw11_ScalarTypes.calls (k : Nat) (a0 : Int) (a1 : Int) (r : Bool) (w : World) (h : ecdysislaw11_ScalarTypes.f k a0 a1 = some r) :
    Calls Try.prog 12 #[.int .i64 a0, .int .u64 a1] w fun e w' => e = .returned (.bool r) ∧ Below w.heap.size w w' := by
  have HB := Aside0.mk (Below.refl w.heap.size w)
  have H : ((scalar_Word.f a0).bind fun t241 => ((ecdysisref11_Word.f a0).bind fun t242 => (if t241.toList = t242.toList then ((scalar_Wire.f k a0).bind fun t243 => ((ecdysisref11_Wire.f k a0).bind fun t244 => (if t243 = t244 then ((scalar_Whole.f a0).bind fun t245 => ((ecdysisref11_Whole.f a0).bind fun t246 => (if (t245 == t246) = true then ((scalar_Number.f a0).bind fun t247 => ((ecdysisref11_Number.f a0).bind fun t248 => (ecdysislaw11_ScalarTypes.j0 k a0 a1 (t247 == t248)))) else (ecdysislaw11_ScalarTypes.j0 k a0 a1 false)))) else (ecdysislaw11_ScalarTypes.j0 k a0 a1 false)))) else (ecdysislaw11_ScalarTypes.j0 k a0 a1 false)))) = some r := h
  clear h
  have HC3 := Aside0.mk H
  clear H
  go_enter Try.func12, Try.ntmps12
  go_upto_region 1 with (fail)
  go_cut [5] (fun v5 wc => ∃ (kq : Nat) (x5_2 : Bool), v5 = .bool x5_2 ∧ Aside0 (ecdysislaw11_ScalarTypes.j0 kq a0 a1 x5_2 = some r) ∧ Aside0 (kq ≤ k) ∧ Aside0 (Below w.heap.size w wc))
  case first =>
    have H := HC3.out
    clear HC3
    replace H := Option.bind_eq_some_iff.mp H
    obtain ⟨t241, A40, H⟩ := H
    replace H : ((ecdysisref11_Word.f a0).bind fun t242 => (if t241.toList = t242.toList then ((scalar_Wire.f k a0).bind fun t243 => ((ecdysisref11_Wire.f k a0).bind fun t244 => (if t243 = t244 then ((scalar_Whole.f a0).bind fun t245 => ((ecdysisref11_Whole.f a0).bind fun t246 => (if (t245 == t246) = true then ((scalar_Number.f a0).bind fun t247 => ((ecdysisref11_Number.f a0).bind fun t248 => (ecdysislaw11_ScalarTypes.j0 k a0 a1 (t247 == t248)))) else (ecdysislaw11_ScalarTypes.j0 k a0 a1 false)))) else (ecdysislaw11_ScalarTypes.j0 k a0 a1 false)))) else (ecdysislaw11_ScalarTypes.j0 k a0 a1 false))) = some r := H
    have A4 := Aside0.mk A40
    clear A40
    replace H := Option.bind_eq_some_iff.mp H
    obtain ⟨t242, A50, H⟩ := H
    replace H : (if t241.toList = t242.toList then ((scalar_Wire.f k a0).bind fun t243 => ((ecdysisref11_Wire.f k a0).bind fun t244 => (if t243 = t244 then ((scalar_Whole.f a0).bind fun t245 => ((ecdysisref11_Whole.f a0).bind fun t246 => (if (t245 == t246) = true then ((scalar_Number.f a0).bind fun t247 => ((ecdysisref11_Number.f a0).bind fun t248 => (ecdysislaw11_ScalarTypes.j0 k a0 a1 (t247 == t248)))) else (ecdysislaw11_ScalarTypes.j0 k a0 a1 false)))) else (ecdysislaw11_ScalarTypes.j0 k a0 a1 false)))) else (ecdysislaw11_ScalarTypes.j0 k a0 a1 false)) = some r := H
    have A5 := Aside0.mk A50
    clear A50
    by_cases c6 : t241.toList = t242.toList
    · rw [if_pos c6] at H
      have c6b0 : (t241.toList == t242.toList) = true := beq_iff_eq.mpr c6
      have c6b1 : (t241.toList != t242.toList) = false := bne_eq_false_iff_eq.mpr c6
      clear c6
      (first | rw [c6b0] | (simp only [i64_w, i32_w]; rw [c6b0]) | skip)
      replace H := Option.bind_eq_some_iff.mp H
      obtain ⟨t243, A70, H⟩ := H
      replace H : ((ecdysisref11_Wire.f k a0).bind fun t244 => (if t243 = t244 then ((scalar_Whole.f a0).bind fun t245 => ((ecdysisref11_Whole.f a0).bind fun t246 => (if (t245 == t246) = true then ((scalar_Number.f a0).bind fun t247 => ((ecdysisref11_Number.f a0).bind fun t248 => (ecdysislaw11_ScalarTypes.j0 k a0 a1 (t247 == t248)))) else (ecdysislaw11_ScalarTypes.j0 k a0 a1 false)))) else (ecdysislaw11_ScalarTypes.j0 k a0 a1 false))) = some r := H
      have A7 := Aside0.mk A70
      clear A70
      replace H := Option.bind_eq_some_iff.mp H
      obtain ⟨t244, A80, H⟩ := H
      replace H : (if t243 = t244 then ((scalar_Whole.f a0).bind fun t245 => ((ecdysisref11_Whole.f a0).bind fun t246 => (if (t245 == t246) = true then ((scalar_Number.f a0).bind fun t247 => ((ecdysisref11_Number.f a0).bind fun t248 => (ecdysislaw11_ScalarTypes.j0 k a0 a1 (t247 == t248)))) else (ecdysislaw11_ScalarTypes.j0 k a0 a1 false)))) else (ecdysislaw11_ScalarTypes.j0 k a0 a1 false)) = some r := H
      have A8 := Aside0.mk A80
      clear A80
      by_cases c9 : t243 = t244
      · rw [if_pos c9] at H
        have c9b0 : (t243 == t244) = true := beq_iff_eq.mpr c9
        have c9b1 : (t243 != t244) = false := bne_eq_false_iff_eq.mpr c9
        clear c9
        replace H := Option.bind_eq_some_iff.mp H
        obtain ⟨t245, A100, H⟩ := H
        replace H : ((ecdysisref11_Whole.f a0).bind fun t246 => (if (t245 == t246) = true then ((scalar_Number.f a0).bind fun t247 => ((ecdysisref11_Number.f a0).bind fun t248 => (ecdysislaw11_ScalarTypes.j0 k a0 a1 (t247 == t248)))) else (ecdysislaw11_ScalarTypes.j0 k a0 a1 false))) = some r := H
        have A10 := Aside0.mk A100
        clear A100
        replace H := Option.bind_eq_some_iff.mp H
        obtain ⟨t246, A110, H⟩ := H
        replace H : (if (t245 == t246) = true then ((scalar_Number.f a0).bind fun t247 => ((ecdysisref11_Number.f a0).bind fun t248 => (ecdysislaw11_ScalarTypes.j0 k a0 a1 (t247 == t248)))) else (ecdysislaw11_ScalarTypes.j0 k a0 a1 false)) = some r := H
        have A11 := Aside0.mk A110
        clear A110
        by_cases c12 : (t245 == t246) = true
        · rw [if_pos c12] at H
          have c12b0 : (t245 == t246) = true := c12
          (try (have c12b1 : decide (t245 = t246) = true := by simpa using c12))
          (try (have c12b2 : (t245 == t246) = true := by simpa using c12))
          clear c12
          replace H := Option.bind_eq_some_iff.mp H
          obtain ⟨t247, A130, H⟩ := H
          replace H : ((ecdysisref11_Number.f a0).bind fun t248 => (ecdysislaw11_ScalarTypes.j0 k a0 a1 (t247 == t248))) = some r := H
          have A13 := Aside0.mk A130
          clear A130
          replace H := Option.bind_eq_some_iff.mp H
          obtain ⟨t248, A140, H⟩ := H
          replace H : (ecdysislaw11_ScalarTypes.j0 k a0 a1 (t247 == t248)) = some r := H
          have A14 := Aside0.mk A140
          clear A140
          have H' := Aside0.mk H
          clear H
          go_wp2_with (first | ((with_reducible refine gate_callee (f := 39) rfl ?_); refine goesL_ (some 7) rfl rfl Try.func39 (by kernel_rfl) rfl #[.int .i64 a0] rfl (by (try simp only [List.map_toArray, List.map_cons, List.map_nil]); first | done | rfl | (simp only [List.length_drop, List.length_take]; rfl)) ?_; (with_reducible refine (scalar_Word.calls a0 t241 _ A4.out).mono ?_); rintro e w' ⟨rfl, ⟨nd, rfl⟩⟩; refine ⟨_, rfl, ?_⟩) | ((with_reducible refine gate_callee (f := 40) rfl ?_); refine goesL_ (some 9) rfl rfl Try.func40 (by kernel_rfl) rfl #[.int .i64 a0] rfl (by (try simp only [List.map_toArray, List.map_cons, List.map_nil]); first | done | rfl | (simp only [List.length_drop, List.length_take]; rfl)) ?_; (with_reducible refine (ecdysisref11_Word.calls a0 t242 _ A5.out).mono ?_); rintro e w15 ⟨rfl, hb⟩; refine ⟨_, rfl, ?_⟩; have n0_ := Aside0.mk (below_step (by repeat (first | (with_reducible first | exact HB.out | apply below_alloc | apply pw_below_drewN | apply below_drew1) | exact HB.out)) hb); clear HB; have HB := n0_; clear n0_; (try clear hb); (try clear hb2); (try clear hk); (try clear hi)) | (go_at_call 41; (with_reducible refine (scalar_Wire.calls k a0 t243 _ A7.out).mono ?_); rintro e w' ⟨rfl, ⟨nd, rfl⟩⟩) | (go_at_call 42; (with_reducible refine (ecdysisref11_Wire.calls k a0 t244 _ A8.out).mono ?_); rintro e w' ⟨rfl, ⟨nd, rfl⟩⟩) | (go_at_call 43; (with_reducible refine (scalar_Whole.calls a0 t245 _ A10.out).mono ?_); rintro e w' ⟨rfl, ⟨nd, rfl⟩⟩) | (go_at_call 26; (with_reducible refine (ecdysisref11_Whole.calls a0 t246 _ A11.out).mono ?_); rintro e w' ⟨rfl, ⟨nd, rfl⟩⟩) | (go_at_call 44; (with_reducible refine (scalar_Number.calls a0 t247 _ A13.out).mono ?_); rintro e w' ⟨rfl, ⟨nd, rfl⟩⟩) | (go_at_call 45; (with_reducible refine (ecdysisref11_Number.calls a0 t248 _ A14.out).mono ?_); rintro e w' ⟨rfl, ⟨nd, rfl⟩⟩))
          go_meet
          case rel => exact ⟨_, ((t247 == t248)), (by first | rfl | (simp; done) | (simp [*]; done)), H', ⟨by first | omega | exact Nat.le_refl _⟩, ⟨by repeat (first | (with_reducible first | exact HB.out | apply below_alloc | apply pw_below_drewN | apply below_drew1) | exact HB.out)⟩⟩
        · rw [if_neg c12] at H
          have c12b0 : (t245 == t246) = false := by simpa using c12
          (try (have c12b1 : decide (t245 = t246) = false := by simpa using c12))
          (try (have c12b2 : (t245 == t246) = false := by simpa using c12))
          (try (have c12b3 : ¬ (t245 = t246) := by simpa using c12))
          clear c12
          have H' := Aside0.mk H
          clear H
          go_wp2_with (first | ((with_reducible refine gate_callee (f := 39) rfl ?_); refine goesL_ (some 7) rfl rfl Try.func39 (by kernel_rfl) rfl #[.int .i64 a0] rfl (by (try simp only [List.map_toArray, List.map_cons, List.map_nil]); first | done | rfl | (simp only [List.length_drop, List.length_take]; rfl)) ?_; (with_reducible refine (scalar_Word.calls a0 t241 _ A4.out).mono ?_); rintro e w' ⟨rfl, ⟨nd, rfl⟩⟩; refine ⟨_, rfl, ?_⟩) | ((with_reducible refine gate_callee (f := 40) rfl ?_); refine goesL_ (some 9) rfl rfl Try.func40 (by kernel_rfl) rfl #[.int .i64 a0] rfl (by (try simp only [List.map_toArray, List.map_cons, List.map_nil]); first | done | rfl | (simp only [List.length_drop, List.length_take]; rfl)) ?_; (with_reducible refine (ecdysisref11_Word.calls a0 t242 _ A5.out).mono ?_); rintro e w16 ⟨rfl, hb⟩; refine ⟨_, rfl, ?_⟩; have n0_ := Aside0.mk (below_step (by repeat (first | (with_reducible first | exact HB.out | apply below_alloc | apply pw_below_drewN | apply below_drew1) | exact HB.out)) hb); clear HB; have HB := n0_; clear n0_; (try clear hb); (try clear hb2); (try clear hk); (try clear hi)) | (go_at_call 41; (with_reducible refine (scalar_Wire.calls k a0 t243 _ A7.out).mono ?_); rintro e w' ⟨rfl, ⟨nd, rfl⟩⟩) | (go_at_call 42; (with_reducible refine (ecdysisref11_Wire.calls k a0 t244 _ A8.out).mono ?_); rintro e w' ⟨rfl, ⟨nd, rfl⟩⟩) | (go_at_call 43; (with_reducible refine (scalar_Whole.calls a0 t245 _ A10.out).mono ?_); rintro e w' ⟨rfl, ⟨nd, rfl⟩⟩) | (go_at_call 26; (with_reducible refine (ecdysisref11_Whole.calls a0 t246 _ A11.out).mono ?_); rintro e w' ⟨rfl, ⟨nd, rfl⟩⟩))
          go_meet
          case rel => exact ⟨_, (false), (by first | rfl | (simp; done) | (simp [*]; done)), H', ⟨by first | omega | exact Nat.le_refl _⟩, ⟨by repeat (first | (with_reducible first | exact HB.out | apply below_alloc | apply pw_below_drewN | apply below_drew1) | exact HB.out)⟩⟩
      · rw [if_neg c9] at H
        have c9b0 : (t243 == t244) = false := beq_eq_false_iff_ne.mpr c9
        have c9b1 : (t243 != t244) = true := bne_iff_ne.mpr c9
        have H' := Aside0.mk H
        clear H
        go_wp2_with (first | ((with_reducible refine gate_callee (f := 39) rfl ?_); refine goesL_ (some 7) rfl rfl Try.func39 (by kernel_rfl) rfl #[.int .i64 a0] rfl (by (try simp only [List.map_toArray, List.map_cons, List.map_nil]); first | done | rfl | (simp only [List.length_drop, List.length_take]; rfl)) ?_; (with_reducible refine (scalar_Word.calls a0 t241 _ A4.out).mono ?_); rintro e w' ⟨rfl, ⟨nd, rfl⟩⟩; refine ⟨_, rfl, ?_⟩) | ((with_reducible refine gate_callee (f := 40) rfl ?_); refine goesL_ (some 9) rfl rfl Try.func40 (by kernel_rfl) rfl #[.int .i64 a0] rfl (by (try simp only [List.map_toArray, List.map_cons, List.map_nil]); first | done | rfl | (simp only [List.length_drop, List.length_take]; rfl)) ?_; (with_reducible refine (ecdysisref11_Word.calls a0 t242 _ A5.out).mono ?_); rintro e w17 ⟨rfl, hb⟩; refine ⟨_, rfl, ?_⟩; have n0_ := Aside0.mk (below_step (by repeat (first | (with_reducible first | exact HB.out | apply below_alloc | apply pw_below_drewN | apply below_drew1) | exact HB.out)) hb); clear HB; have HB := n0_; clear n0_; (try clear hb); (try clear hb2); (try clear hk); (try clear hi)) | (go_at_call 41; (with_reducible refine (scalar_Wire.calls k a0 t243 _ A7.out).mono ?_); rintro e w' ⟨rfl, ⟨nd, rfl⟩⟩) | (go_at_call 42; (with_reducible refine (ecdysisref11_Wire.calls k a0 t244 _ A8.out).mono ?_); rintro e w' ⟨rfl, ⟨nd, rfl⟩⟩))
        go_meet
        case rel => exact ⟨_, (false), (by first | rfl | (simp; done) | (simp [*]; done)), H', ⟨by first | omega | exact Nat.le_refl _⟩, ⟨by repeat (first | (with_reducible first | exact HB.out | apply below_alloc | apply pw_below_drewN | apply below_drew1) | exact HB.out)⟩⟩
    · rw [if_neg c6] at H
      have c6b0 : (t241.toList == t242.toList) = false := beq_eq_false_iff_ne.mpr c6
      have c6b1 : (t241.toList != t242.toList) = true := bne_iff_ne.mpr c6
      (first | rw [c6b0] | (simp only [i64_w, i32_w]; rw [c6b0]) | skip)
      have H' := Aside0.mk H
      clear H
      go_wp2_with (first | ((with_reducible refine gate_callee (f := 39) rfl ?_); refine goesL_ (some 7) rfl rfl Try.func39 (by kernel_rfl) rfl #[.int .i64 a0] rfl (by (try simp only [List.map_toArray, List.map_cons, List.map_nil]); first | done | rfl | (simp only [List.length_drop, List.length_take]; rfl)) ?_; (with_reducible refine (scalar_Word.calls a0 t241 _ A4.out).mono ?_); rintro e w' ⟨rfl, ⟨nd, rfl⟩⟩; refine ⟨_, rfl, ?_⟩) | ((with_reducible refine gate_callee (f := 40) rfl ?_); refine goesL_ (some 9) rfl rfl Try.func40 (by kernel_rfl) rfl #[.int .i64 a0] rfl (by (try simp only [List.map_toArray, List.map_cons, List.map_nil]); first | done | rfl | (simp only [List.length_drop, List.length_take]; rfl)) ?_; (with_reducible refine (ecdysisref11_Word.calls a0 t242 _ A5.out).mono ?_); rintro e w18 ⟨rfl, hb⟩; refine ⟨_, rfl, ?_⟩; have n0_ := Aside0.mk (below_step (by repeat (first | (with_reducible first | exact HB.out | apply below_alloc | apply pw_below_drewN | apply below_drew1) | exact HB.out)) hb); clear HB; have HB := n0_; clear n0_; (try clear hb); (try clear hb2); (try clear hk); (try clear hi)))
      go_meet
      case rel => exact ⟨_, (false), (by first | rfl | (simp; done) | (simp [*]; done)), H', ⟨by first | omega | exact Nat.le_refl _⟩, ⟨by repeat (first | (with_reducible first | exact HB.out | apply below_alloc | apply pw_below_drewN | apply below_drew1) | exact HB.out)⟩⟩
  case rest =>
    clear HC3
    try clear c1
    try clear p2
    try clear c3
    try clear c4
    try clear c6
    try clear c6b0
    try clear c6b1
    try clear c9
    try clear c9b0
    try clear c9b1
    try clear c12
    try clear c12b0
    try clear c12b1
    try clear c12b2
    obtain ⟨kq, x5_2, rfl, HA, HJ2, HB⟩ := hcut
    cases kq with
    | zero => exact absurd HA.out (by simp [ecdysislaw11_ScalarTypes.j0])
    | succ kj2 =>
      have H := HA.out
      clear HA
      simp only [ecdysislaw11_ScalarTypes.j0] at H
      by_cases c19 : x5_2 = true
      · subst c19
        have H1 : ((scalar_Signed.f a0).bind fun t249 => ((ecdysisref11_Signed.f a0).bind fun t250 => (if (t249 == t250) = true then ((scalar_Wide.f a0).bind fun t251 => ((ecdysisref11_Wide.f a0).bind fun t252 => (if (t251 == t252) = true then ((scalar_May.f kj2 a0 a1).bind fun t253 => ((ecdysisref11_May.f kj2 a0 a1).bind fun t254 => (if (t253 == t254) = true then ((ecdysislaw11_live.f kj2).bind fun t255 => (some t255)) else (some false)))) else (some false)))) else (some false)))) = some r := by rw [if_pos rfl] at H; exact H
        clear H
        have H := H1
        clear H1
        replace H := Option.bind_eq_some_iff.mp H
        obtain ⟨t249, A200, H⟩ := H
        replace H : ((ecdysisref11_Signed.f a0).bind fun t250 => (if (t249 == t250) = true then ((scalar_Wide.f a0).bind fun t251 => ((ecdysisref11_Wide.f a0).bind fun t252 => (if (t251 == t252) = true then ((scalar_May.f kj2 a0 a1).bind fun t253 => ((ecdysisref11_May.f kj2 a0 a1).bind fun t254 => (if (t253 == t254) = true then ((ecdysislaw11_live.f kj2).bind fun t255 => (some t255)) else (some false)))) else (some false)))) else (some false))) = some r := H
        have A20 := Aside0.mk A200
        clear A200
        replace H := Option.bind_eq_some_iff.mp H
        obtain ⟨t250, A210, H⟩ := H
        replace H : (if (t249 == t250) = true then ((scalar_Wide.f a0).bind fun t251 => ((ecdysisref11_Wide.f a0).bind fun t252 => (if (t251 == t252) = true then ((scalar_May.f kj2 a0 a1).bind fun t253 => ((ecdysisref11_May.f kj2 a0 a1).bind fun t254 => (if (t253 == t254) = true then ((ecdysislaw11_live.f kj2).bind fun t255 => (some t255)) else (some false)))) else (some false)))) else (some false)) = some r := H
        have A21 := Aside0.mk A210
        clear A210
        by_cases c22 : (t249 == t250) = true
        · rw [if_pos c22] at H
          have c22b0 : (t249 == t250) = true := c22
          (try (have c22b1 : decide (t249 = t250) = true := by simpa using c22))
          (try (have c22b2 : (t249 == t250) = true := by simpa using c22))
          clear c22
          replace H := Option.bind_eq_some_iff.mp H
          obtain ⟨t251, A230, H⟩ := H
          replace H : ((ecdysisref11_Wide.f a0).bind fun t252 => (if (t251 == t252) = true then ((scalar_May.f kj2 a0 a1).bind fun t253 => ((ecdysisref11_May.f kj2 a0 a1).bind fun t254 => (if (t253 == t254) = true then ((ecdysislaw11_live.f kj2).bind fun t255 => (some t255)) else (some false)))) else (some false))) = some r := H
          have A23 := Aside0.mk A230
          clear A230
          replace H := Option.bind_eq_some_iff.mp H
          obtain ⟨t252, A240, H⟩ := H
          replace H : (if (t251 == t252) = true then ((scalar_May.f kj2 a0 a1).bind fun t253 => ((ecdysisref11_May.f kj2 a0 a1).bind fun t254 => (if (t253 == t254) = true then ((ecdysislaw11_live.f kj2).bind fun t255 => (some t255)) else (some false)))) else (some false)) = some r := H
          have A24 := Aside0.mk A240
          clear A240
          by_cases c25 : (t251 == t252) = true
          · rw [if_pos c25] at H
            have c25b0 : (t251 == t252) = true := c25
            (try (have c25b1 : decide (t251 = t252) = true := by simpa using c25))
            (try (have c25b2 : (t251 == t252) = true := by simpa using c25))
            clear c25
            replace H := Option.bind_eq_some_iff.mp H
            obtain ⟨t253, A260, H⟩ := H
            replace H : ((ecdysisref11_May.f kj2 a0 a1).bind fun t254 => (if (t253 == t254) = true then ((ecdysislaw11_live.f kj2).bind fun t255 => (some t255)) else (some false))) = some r := H
            have A26 := Aside0.mk A260
            clear A260
            replace H := Option.bind_eq_some_iff.mp H
            obtain ⟨t254, A270, H⟩ := H
            replace H : (if (t253 == t254) = true then ((ecdysislaw11_live.f kj2).bind fun t255 => (some t255)) else (some false)) = some r := H
            have A27 := Aside0.mk A270
            clear A270
            by_cases c28 : (t253 == t254) = true
            · rw [if_pos c28] at H
              have c28b0 : (t253 == t254) = true := c28
              (try (have c28b1 : decide (t253 = t254) = true := by simpa using c28))
              (try (have c28b2 : (t253 == t254) = true := by simpa using c28))
              clear c28
              replace H := Option.bind_eq_some_iff.mp H
              obtain ⟨t255, A290, H⟩ := H
              replace H : (some t255) = some r := H
              have A29 := Aside0.mk A290
              clear A290
              obtain rfl := Option.some.inj H
              go_wp2_with (first | (go_at_call 46; (with_reducible refine (scalar_Signed.calls a0 t249 _ A20.out).mono ?_); rintro e w' ⟨rfl, ⟨nd, rfl⟩⟩) | (go_at_call 47; (with_reducible refine (ecdysisref11_Signed.calls a0 t250 _ A21.out).mono ?_); rintro e w' ⟨rfl, ⟨nd, rfl⟩⟩) | (go_at_call 48; (with_reducible refine (scalar_Wide.calls a0 t251 _ A23.out).mono ?_); rintro e w' ⟨rfl, ⟨nd, rfl⟩⟩) | (go_at_call 27; (with_reducible refine (ecdysisref11_Wide.calls a0 t252 _ A24.out).mono ?_); rintro e w' ⟨rfl, ⟨nd, rfl⟩⟩) | (go_at_call 49; (with_reducible refine (scalar_May.calls kj2 a0 a1 t253 _ A26.out).mono ?_); rintro e w' ⟨rfl, ⟨nd, rfl⟩⟩) | (go_at_call 25; (with_reducible refine (ecdysisref11_May.calls kj2 a0 a1 t254 _ A27.out).mono ?_); rintro e w' ⟨rfl, ⟨nd, rfl⟩⟩) | (go_at_call 36; (with_reducible refine (ecdysislaw11_live.calls kj2  t255 _ A29.out).mono ?_); rintro e w' ⟨rfl, ⟨nd, rfl⟩⟩))
              go_ret
              exact ⟨by first | rfl | (simp [errW_none, errW_some] <;> rfl) | (simp [*, errW_none, errW_some] <;> rfl), by repeat (first | (with_reducible first | exact HB.out | apply below_alloc | apply pw_below_drewN | apply below_drew1) | exact HB.out)⟩
            · rw [if_neg c28] at H
              have c28b0 : (t253 == t254) = false := by simpa using c28
              (try (have c28b1 : decide (t253 = t254) = false := by simpa using c28))
              (try (have c28b2 : (t253 == t254) = false := by simpa using c28))
              (try (have c28b3 : ¬ (t253 = t254) := by simpa using c28))
              clear c28
              obtain rfl := Option.some.inj H
              go_wp2_with (first | (go_at_call 46; (with_reducible refine (scalar_Signed.calls a0 t249 _ A20.out).mono ?_); rintro e w' ⟨rfl, ⟨nd, rfl⟩⟩) | (go_at_call 47; (with_reducible refine (ecdysisref11_Signed.calls a0 t250 _ A21.out).mono ?_); rintro e w' ⟨rfl, ⟨nd, rfl⟩⟩) | (go_at_call 48; (with_reducible refine (scalar_Wide.calls a0 t251 _ A23.out).mono ?_); rintro e w' ⟨rfl, ⟨nd, rfl⟩⟩) | (go_at_call 27; (with_reducible refine (ecdysisref11_Wide.calls a0 t252 _ A24.out).mono ?_); rintro e w' ⟨rfl, ⟨nd, rfl⟩⟩) | (go_at_call 49; (with_reducible refine (scalar_May.calls kj2 a0 a1 t253 _ A26.out).mono ?_); rintro e w' ⟨rfl, ⟨nd, rfl⟩⟩) | (go_at_call 25; (with_reducible refine (ecdysisref11_May.calls kj2 a0 a1 t254 _ A27.out).mono ?_); rintro e w' ⟨rfl, ⟨nd, rfl⟩⟩))
              go_ret
              exact ⟨by first | rfl | (simp [errW_none, errW_some] <;> rfl) | (simp [*, errW_none, errW_some] <;> rfl), by repeat (first | (with_reducible first | exact HB.out | apply below_alloc | apply pw_below_drewN | apply below_drew1) | exact HB.out)⟩
          · rw [if_neg c25] at H
            have c25b0 : (t251 == t252) = false := by simpa using c25
            (try (have c25b1 : decide (t251 = t252) = false := by simpa using c25))
            (try (have c25b2 : (t251 == t252) = false := by simpa using c25))
            (try (have c25b3 : ¬ (t251 = t252) := by simpa using c25))
            clear c25
            obtain rfl := Option.some.inj H
            go_wp2_with (first | (go_at_call 46; (with_reducible refine (scalar_Signed.calls a0 t249 _ A20.out).mono ?_); rintro e w' ⟨rfl, ⟨nd, rfl⟩⟩) | (go_at_call 47; (with_reducible refine (ecdysisref11_Signed.calls a0 t250 _ A21.out).mono ?_); rintro e w' ⟨rfl, ⟨nd, rfl⟩⟩) | (go_at_call 48; (with_reducible refine (scalar_Wide.calls a0 t251 _ A23.out).mono ?_); rintro e w' ⟨rfl, ⟨nd, rfl⟩⟩) | (go_at_call 27; (with_reducible refine (ecdysisref11_Wide.calls a0 t252 _ A24.out).mono ?_); rintro e w' ⟨rfl, ⟨nd, rfl⟩⟩))
            go_ret
            exact ⟨by first | rfl | (simp [errW_none, errW_some] <;> rfl) | (simp [*, errW_none, errW_some] <;> rfl), by repeat (first | (with_reducible first | exact HB.out | apply below_alloc | apply pw_below_drewN | apply below_drew1) | exact HB.out)⟩
        · rw [if_neg c22] at H
          have c22b0 : (t249 == t250) = false := by simpa using c22
          (try (have c22b1 : decide (t249 = t250) = false := by simpa using c22))
          (try (have c22b2 : (t249 == t250) = false := by simpa using c22))
          (try (have c22b3 : ¬ (t249 = t250) := by simpa using c22))
          clear c22
          obtain rfl := Option.some.inj H
          go_wp2_with (first | (go_at_call 46; (with_reducible refine (scalar_Signed.calls a0 t249 _ A20.out).mono ?_); rintro e w' ⟨rfl, ⟨nd, rfl⟩⟩) | (go_at_call 47; (with_reducible refine (ecdysisref11_Signed.calls a0 t250 _ A21.out).mono ?_); rintro e w' ⟨rfl, ⟨nd, rfl⟩⟩))
          go_ret
          exact ⟨by first | rfl | (simp [errW_none, errW_some] <;> rfl) | (simp [*, errW_none, errW_some] <;> rfl), by repeat (first | (with_reducible first | exact HB.out | apply below_alloc | apply pw_below_drewN | apply below_drew1) | exact HB.out)⟩
      · replace c19 := Bool.eq_false_iff.mpr c19
        subst c19
        have H1 : (some false) = some r := by rw [if_neg (show ¬ (false = true) by decide)] at H; exact H
        clear H
        have H := H1
        clear H1
        obtain rfl := Option.some.inj H
        go_wp2
        go_ret
        exact ⟨by first | rfl | (simp [errW_none, errW_some] <;> rfl) | (simp [*, errW_none, errW_some] <;> rfl), by repeat (first | (with_reducible first | exact HB.out | apply below_alloc | apply pw_below_drewN | apply below_drew1) | exact HB.out)⟩

/-- THE ONE PURE STATEMENT of ecdysislaw11_ScalarTypes: yours. -/
def ecdysislaw11_ScalarTypes.Pure : Prop := ∀ (a0 : Int) (a1 : Int), (Lit.int .i64 a0).wf = true → (Lit.int .u64 a1).wf = true → ∃ k, ecdysislaw11_ScalarTypes.f k a0 a1 = some true
theorem ecdysislaw11_ScalarTypes.walk (P : ecdysislaw11_ScalarTypes.Pure) (a0 : Int) (a1 : Int) (w : World) (w0 : (Lit.int .i64 a0).wf = true) (w1 : (Lit.int .u64 a1).wf = true) :
    Calls Try.prog 12 #[.int .i64 a0, .int .u64 a1] w fun e w' => e = .returned (.bool true) ∧ Below w.heap.size w w' := by
  obtain ⟨k, h⟩ := P a0 a1 w0 w1
  refine (ecdysislaw11_ScalarTypes.calls k a0 a1 true w h).mono ?_
  rintro e w' ⟨rfl, hd⟩
  exact ⟨rfl, hd⟩

end Go.Proofs.Ytddomdjphkalcaa.Px
