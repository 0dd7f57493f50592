-- Printed by myprint.py, a program of this session's repo, over the kit's printer; hand texts of the session stand in it
import Derived.Test.YtddomdjphkalcaaPx0
import Derived.Test.YtddomdjphkalcaaPx2
import Derived.Test.YtddomdjphkalcaaPx3
import Derived.Test.YtddomdjphkalcaaPx4
import Derived.Test.YtddomdjphkalcaaPx6
import Derived.Test.YtddomdjphkalcaaPx7
import Derived.Test.YtddomdjphkalcaaPx8
namespace Go.Proofs.Ytddomdjphkalcaa.Px
open Go.RowKit Go.Proofs.YtddomdjphkalcaaW.PrintWords Go.Proofs.YtddomdjphkalcaaW.PrintLast Go.Proofs.YtddomdjphkalcaaW.PrintMore
attribute [local go_sem] max2_int min2_int max_two min_two max_three min_three max_four min_four   -- for this text's walks alone
set_option linter.unusedVariables false
set_option linter.unusedSimpArgs false

/-! ### ecdysislaw12_NumShort: function 7 -/
def ecdysislaw12_NumShort.j0 : Nat → Int → Bool → Option (Bool)
  | 0, _, _ => none
  | k + 1, x0, x30 => if x30 = true then (some false) else ((num_From.f k x0 0).bind fun t142 => (if t142 = 0 then ((num_To.f k x0 0).bind fun t143 => (if t143 = 0 then ((ecdysislaw12_live.f k).bind fun t144 => (some t144)) else (some false))) else (some false)))
def ecdysislaw12_NumShort.f (k : Nat) (a0 : Int) (a1 : Int) (a2 : Int) : Option (Bool) := (ecdysisref11_Whole.f a0).bind fun t138 => (if t138 = true then ((ecdysisref11_Wide.f a0).bind fun t139 => (if t139 = true then (ecdysislaw12_NumShort.j0 k a0 false) else ((num_From.f k a0 (Go.bits .or .u64 (IntKind.u64.wrap ((IntKind.u64.wrap (a2)) * 4294967296)) (IntKind.u64.wrap (a1)))).bind fun t140 => ((num_From.f k a0 (IntKind.u64.wrap (a1))).bind fun t141 => (ecdysislaw12_NumShort.j0 k a0 (t140 != t141)))))) else (ecdysislaw12_NumShort.j0 k a0 false))
theorem ecdysislaw12_NumShort.mono_l : ∀ k, (∀ y0 y1, LeO (ecdysislaw12_NumShort.j0 k y0 y1) (ecdysislaw12_NumShort.j0 (k + 1) y0 y1))
  | 0 => fun _ _ r h => by simp [ecdysislaw12_NumShort.j0] at h
  | k + 1 => by
    have ih0 := ecdysislaw12_NumShort.mono_l k
    · intro y0 y1
      unfold ecdysislaw12_NumShort.j0
      repeat' first
      | (with_reducible exact ih0 _ _)
      | (with_reducible exact ecdysislaw12_live.mono _)
      | (with_reducible exact num_From.mono _ _ _)
      | (with_reducible exact num_To.mono _ _ _)
      | (with_reducible exact LeO.refl _)
      | (with_reducible exact LeO.none _)
      | (with_reducible refine LeO.ite ?_ ?_)
      | (with_reducible refine LeO.bind ?_ (fun _ => ?_))
      | exact ih0 _ _
      | exact ecdysislaw12_live.mono _
      | exact num_From.mono _ _ _
      | exact num_To.mono _ _ _
      | exact LeO.none _
      | refine LeO.ite ?_ ?_
      | refine LeO.bind ?_ (fun _ => ?_)
theorem ecdysislaw12_NumShort.mono : ∀ a0 a1 a2 k, LeO (ecdysislaw12_NumShort.f k a0 a1 a2) (ecdysislaw12_NumShort.f (k + 1) a0 a1 a2) := by
  intro a0 a1 a2 k
  have ih0 := ecdysislaw12_NumShort.mono_l k
  unfold ecdysislaw12_NumShort.f
  repeat' first
      | (with_reducible exact ih0 _ _)
      | (with_reducible exact ecdysislaw12_live.mono _)
      | (with_reducible exact num_From.mono _ _ _)
      | (with_reducible exact num_To.mono _ _ _)
      | (with_reducible exact LeO.refl _)
      | (with_reducible exact LeO.none _)
      | (with_reducible refine LeO.ite ?_ ?_)
      | (with_reducible refine LeO.bind ?_ (fun _ => ?_))
      | exact ih0 _ _
      | exact ecdysislaw12_live.mono _
      | exact num_From.mono _ _ _
      | exact num_To.mono _ _ _
      | exact LeO.none _
      | refine LeO.ite ?_ ?_
      | refine LeO.bind ?_ (fun _ => ?_)
set_option maxHeartbeats 8000000 in
set_option maxRecDepth 100000 in
theorem ecdysislaw12_NumShort.calls (k : Nat) (a0 : Int) (a1 : Int) (a2 : Int) (r : Bool) (w : World) (h : ecdysislaw12_NumShort.f k a0 a1 a2 = some r) :
    Calls Try.prog 7 #[.int .i64 a0, .int .u32 a1, .int .u32 a2] w fun e w' => e = .returned (.bool r) ∧ Below w.heap.size w w' := by
  have HB := Aside0.mk (Below.refl w.heap.size w)
  have H : ((ecdysisref11_Whole.f a0).bind fun t138 => (if t138 = true then ((ecdysisref11_Wide.f a0).bind fun t139 => (if t139 = true then (ecdysislaw12_NumShort.j0 k a0 false) else ((num_From.f k a0 (Go.bits .or .u64 (IntKind.u64.wrap ((IntKind.u64.wrap (a2)) * 4294967296)) (IntKind.u64.wrap (a1)))).bind fun t140 => ((num_From.f k a0 (IntKind.u64.wrap (a1))).bind fun t141 => (ecdysislaw12_NumShort.j0 k a0 (t140 != t141)))))) else (ecdysislaw12_NumShort.j0 k a0 false))) = some r := h
  clear h
  have HC4 := Aside0.mk H
  clear H
  go_enter Try.func7, Try.ntmps7
  go_upto_region 2 with (fail)
  go_cut [30] (fun v30 wc => ∃ (kq : Nat) (x30_3 : Bool), v30 = .bool x30_3 ∧ Aside0 (ecdysislaw12_NumShort.j0 kq a0 x30_3 = some r) ∧ Aside0 (kq ≤ k) ∧ Aside0 (Below w.heap.size w wc))
  case first =>
    have H := HC4.out
    clear HC4
    replace H := Option.bind_eq_some_iff.mp H
    obtain ⟨t138, A50, H⟩ := H
    replace H : (if t138 = true then ((ecdysisref11_Wide.f a0).bind fun t139 => (if t139 = true then (ecdysislaw12_NumShort.j0 k a0 false) else ((num_From.f k a0 (Go.bits .or .u64 (IntKind.u64.wrap ((IntKind.u64.wrap (a2)) * 4294967296)) (IntKind.u64.wrap (a1)))).bind fun t140 => ((num_From.f k a0 (IntKind.u64.wrap (a1))).bind fun t141 => (ecdysislaw12_NumShort.j0 k a0 (t140 != t141)))))) else (ecdysislaw12_NumShort.j0 k a0 false)) = some r := H
    have A5 := Aside0.mk A50
    clear A50
    by_cases c6 : t138 = true
    · subst c6
      have H1 : ((ecdysisref11_Wide.f a0).bind fun t139 => (if t139 = true then (ecdysislaw12_NumShort.j0 k a0 false) else ((num_From.f k a0 (Go.bits .or .u64 (IntKind.u64.wrap ((IntKind.u64.wrap (a2)) * 4294967296)) (IntKind.u64.wrap (a1)))).bind fun t140 => ((num_From.f k a0 (IntKind.u64.wrap (a1))).bind fun t141 => (ecdysislaw12_NumShort.j0 k a0 (t140 != t141)))))) = some r := by rw [if_pos rfl] at H; exact H
      clear H
      have H := H1
      clear H1
      replace H := Option.bind_eq_some_iff.mp H
      obtain ⟨t139, A70, H⟩ := H
      replace H : (if t139 = true then (ecdysislaw12_NumShort.j0 k a0 false) else ((num_From.f k a0 (Go.bits .or .u64 (IntKind.u64.wrap ((IntKind.u64.wrap (a2)) * 4294967296)) (IntKind.u64.wrap (a1)))).bind fun t140 => ((num_From.f k a0 (IntKind.u64.wrap (a1))).bind fun t141 => (ecdysislaw12_NumShort.j0 k a0 (t140 != t141))))) = some r := H
      have A7 := Aside0.mk A70
      clear A70
      by_cases c8 : t139 = true
      · subst c8
        have H1 : (ecdysislaw12_NumShort.j0 k a0 false) = some r := by rw [if_pos rfl] at H; exact H
        clear H
        have H := H1
        clear H1
        have H' := Aside0.mk H
        clear H
        go_wp2_with (first | ((with_reducible refine gate_callee (f := 26) rfl ?_); refine goesL_ (some 15) rfl rfl Try.func26 (by kernel_rfl) rfl #[.int .i64 a0] rfl (by (try simp only [List.map_toArray, List.map_cons, List.map_nil]); first | done | rfl | (simp only [List.length_drop, List.length_take]; rfl)) ?_; (with_reducible refine (ecdysisref11_Whole.calls a0 true _ A5.out).mono ?_); rintro e w' ⟨rfl, ⟨nd, rfl⟩⟩; refine ⟨_, rfl, ?_⟩) | (go_at_call 27; (with_reducible refine (ecdysisref11_Wide.calls a0 true _ A7.out).mono ?_); rintro e w' ⟨rfl, ⟨nd, rfl⟩⟩))
        go_meet
        case rel => exact ⟨_, (false), (by first | rfl | (simp; done) | (simp [*]; done)), H', ⟨by first | omega | exact Nat.le_refl _⟩, ⟨by repeat (first | (with_reducible first | exact HB.out | apply below_alloc | apply pw_below_drewN | apply below_drew1) | exact HB.out)⟩⟩
      · replace c8 := Bool.eq_false_iff.mpr c8
        subst c8
        have H1 : ((num_From.f k a0 (Go.bits .or .u64 (IntKind.u64.wrap ((IntKind.u64.wrap (a2)) * 4294967296)) (IntKind.u64.wrap (a1)))).bind fun t140 => ((num_From.f k a0 (IntKind.u64.wrap (a1))).bind fun t141 => (ecdysislaw12_NumShort.j0 k a0 (t140 != t141)))) = some r := by rw [if_neg (show ¬ (false = true) by decide)] at H; exact H
        clear H
        have H := H1
        clear H1
        replace H := Option.bind_eq_some_iff.mp H
        obtain ⟨t140, A90, H⟩ := H
        replace H : ((num_From.f k a0 (IntKind.u64.wrap (a1))).bind fun t141 => (ecdysislaw12_NumShort.j0 k a0 (t140 != t141))) = some r := H
        have A9 := Aside0.mk A90
        clear A90
        replace H := Option.bind_eq_some_iff.mp H
        obtain ⟨t141, A100, H⟩ := H
        replace H : (ecdysislaw12_NumShort.j0 k a0 (t140 != t141)) = some r := H
        have A10 := Aside0.mk A100
        clear A100
        have H' := Aside0.mk H
        clear H
        go_wp2_with (first | ((with_reducible refine gate_callee (f := 26) rfl ?_); refine goesL_ (some 15) rfl rfl Try.func26 (by kernel_rfl) rfl #[.int .i64 a0] rfl (by (try simp only [List.map_toArray, List.map_cons, List.map_nil]); first | done | rfl | (simp only [List.length_drop, List.length_take]; rfl)) ?_; (with_reducible refine (ecdysisref11_Whole.calls a0 true _ A5.out).mono ?_); rintro e w' ⟨rfl, ⟨nd, rfl⟩⟩; refine ⟨_, rfl, ?_⟩) | (go_at_call 27; (with_reducible refine (ecdysisref11_Wide.calls a0 false _ A7.out).mono ?_); rintro e w' ⟨rfl, ⟨nd, rfl⟩⟩) | (go_at_call 20; (with_reducible refine (num_From.calls k a0 (Go.bits .or .u64 (IntKind.u64.wrap ((IntKind.u64.wrap (a2)) * 4294967296)) (IntKind.u64.wrap (a1))) t140 _ A9.out).mono ?_); rintro e w11 ⟨rfl, hb⟩; have n0_ := Aside0.mk (below_step (by repeat (first | (with_reducible first | exact HB.out | apply below_alloc | apply pw_below_drewN | apply below_drew1) | exact HB.out)) hb); clear HB; have HB := n0_; clear n0_; (try clear hb); (try clear hb2); (try clear hk); (try clear hi)) | (go_at_call 20; (with_reducible refine (num_From.calls k a0 (IntKind.u64.wrap (a1)) t141 _ A10.out).mono ?_); rintro e w12 ⟨rfl, hb⟩; have n0_ := Aside0.mk (below_step (by repeat (first | (with_reducible first | exact HB.out | apply below_alloc | apply pw_below_drewN | apply below_drew1) | exact HB.out)) hb); clear HB; have HB := n0_; clear n0_; (try clear hb); (try clear hb2); (try clear hk); (try clear hi)))
        go_meet
        case rel => exact ⟨_, ((t140 != t141)), (by first | rfl | (simp; done) | (simp [*]; done)), H', ⟨by first | omega | exact Nat.le_refl _⟩, ⟨by repeat (first | (with_reducible first | exact HB.out | apply below_alloc | apply pw_below_drewN | apply below_drew1) | exact HB.out)⟩⟩
    · replace c6 := Bool.eq_false_iff.mpr c6
      subst c6
      have H1 : (ecdysislaw12_NumShort.j0 k a0 false) = some r := by rw [if_neg (show ¬ (false = true) by decide)] at H; exact H
      clear H
      have H := H1
      clear H1
      have H' := Aside0.mk H
      clear H
      go_wp2_with (first | ((with_reducible refine gate_callee (f := 26) rfl ?_); refine goesL_ (some 15) rfl rfl Try.func26 (by kernel_rfl) rfl #[.int .i64 a0] rfl (by (try simp only [List.map_toArray, List.map_cons, List.map_nil]); first | done | rfl | (simp only [List.length_drop, List.length_take]; rfl)) ?_; (with_reducible refine (ecdysisref11_Whole.calls a0 false _ A5.out).mono ?_); rintro e w' ⟨rfl, ⟨nd, rfl⟩⟩; refine ⟨_, rfl, ?_⟩))
      go_meet
      case rel => exact ⟨_, (false), (by first | rfl | (simp; done) | (simp [*]; done)), H', ⟨by first | omega | exact Nat.le_refl _⟩, ⟨by repeat (first | (with_reducible first | exact HB.out | apply below_alloc | apply pw_below_drewN | apply below_drew1) | exact HB.out)⟩⟩
  case rest =>
    clear HC4
    try clear c2
    try clear p2
    try clear c6
    try clear c7
    try clear c8
    obtain ⟨kq, x30_3, rfl, HA, HJ3, HB⟩ := hcut
    cases kq with
    | zero => exact absurd HA.out (by simp [ecdysislaw12_NumShort.j0])
    | succ kj3 =>
      have H := HA.out
      clear HA
      simp only [ecdysislaw12_NumShort.j0] at H
      by_cases c13 : x30_3 = true
      · subst c13
        have H1 : (some false) = some r := by rw [if_pos rfl] at H; exact H
        clear H
        have H := H1
        clear H1
        obtain rfl := Option.some.inj H
        go_wp2
        go_ret
        exact ⟨by first | rfl | (simp [errW_none, errW_some] <;> rfl) | (simp [*, errW_none, errW_some] <;> rfl), by repeat (first | (with_reducible first | exact HB.out | apply below_alloc | apply pw_below_drewN | apply below_drew1) | exact HB.out)⟩
      · replace c13 := Bool.eq_false_iff.mpr c13
        subst c13
        have H1 : ((num_From.f kj3 a0 0).bind fun t142 => (if t142 = 0 then ((num_To.f kj3 a0 0).bind fun t143 => (if t143 = 0 then ((ecdysislaw12_live.f kj3).bind fun t144 => (some t144)) else (some false))) else (some false))) = some r := by rw [if_neg (show ¬ (false = true) by decide)] at H; exact H
        clear H
        have H := H1
        clear H1
        replace H := Option.bind_eq_some_iff.mp H
        obtain ⟨t142, A140, H⟩ := H
        replace H : (if t142 = 0 then ((num_To.f kj3 a0 0).bind fun t143 => (if t143 = 0 then ((ecdysislaw12_live.f kj3).bind fun t144 => (some t144)) else (some false))) else (some false)) = some r := H
        have A14 := Aside0.mk A140
        clear A140
        by_cases c15 : t142 = 0
        · rw [if_pos c15] at H
          have c15b0 : (t142 == 0) = true := beq_iff_eq.mpr c15
          have c15b1 : (t142 != 0) = false := bne_eq_false_iff_eq.mpr c15
          clear c15
          replace H := Option.bind_eq_some_iff.mp H
          obtain ⟨t143, A160, H⟩ := H
          replace H : (if t143 = 0 then ((ecdysislaw12_live.f kj3).bind fun t144 => (some t144)) else (some false)) = some r := H
          have A16 := Aside0.mk A160
          clear A160
          by_cases c17 : t143 = 0
          · rw [if_pos c17] at H
            have c17b0 : (t143 == 0) = true := beq_iff_eq.mpr c17
            have c17b1 : (t143 != 0) = false := bne_eq_false_iff_eq.mpr c17
            clear c17
            replace H := Option.bind_eq_some_iff.mp H
            obtain ⟨t144, A180, H⟩ := H
            replace H : (some t144) = some r := H
            have A18 := Aside0.mk A180
            clear A180
            obtain rfl := Option.some.inj H
            go_wp2_with (first | ((with_reducible refine gate_callee (f := 20) rfl ?_); refine goesL_ (some 32) rfl rfl Try.func20 (by kernel_rfl) rfl #[.int .i64 a0, .int .u64 0] rfl (by (try simp only [List.map_toArray, List.map_cons, List.map_nil]); first | done | rfl | (simp only [List.length_drop, List.length_take]; rfl)) ?_; (with_reducible refine (num_From.calls kj3 a0 0 t142 _ A14.out).mono ?_); rintro e w19 ⟨rfl, hb⟩; refine ⟨_, rfl, ?_⟩; have n0_ := Aside0.mk (below_step (by repeat (first | (with_reducible first | exact HB.out | apply below_alloc | apply pw_below_drewN | apply below_drew1) | exact HB.out)) hb); clear HB; have HB := n0_; clear n0_; (try clear hb); (try clear hb2); (try clear hk); (try clear hi)) | (go_at_call 22; (with_reducible refine (num_To.calls kj3 a0 0 t143 _ A16.out).mono ?_); rintro e w' ⟨rfl, ⟨nd, rfl⟩⟩) | (go_at_call 24; (with_reducible refine (ecdysislaw12_live.calls kj3  t144 _ A18.out).mono ?_); rintro e w20 ⟨rfl, hb⟩; have n0_ := Aside0.mk (below_step (by repeat (first | (with_reducible first | exact HB.out | apply below_alloc | apply pw_below_drewN | apply below_drew1) | exact HB.out)) hb); clear HB; have HB := n0_; clear n0_; (try clear hb); (try clear hb2); (try clear hk); (try clear hi)))
            go_ret
            exact ⟨by first | rfl | (simp [errW_none, errW_some] <;> rfl) | (simp [*, errW_none, errW_some] <;> rfl), by repeat (first | (with_reducible first | exact HB.out | apply below_alloc | apply pw_below_drewN | apply below_drew1) | exact HB.out)⟩
          · rw [if_neg c17] at H
            have c17b0 : (t143 == 0) = false := beq_eq_false_iff_ne.mpr c17
            have c17b1 : (t143 != 0) = true := bne_iff_ne.mpr c17
            obtain rfl := Option.some.inj H
            go_wp2_with (first | ((with_reducible refine gate_callee (f := 20) rfl ?_); refine goesL_ (some 32) rfl rfl Try.func20 (by kernel_rfl) rfl #[.int .i64 a0, .int .u64 0] rfl (by (try simp only [List.map_toArray, List.map_cons, List.map_nil]); first | done | rfl | (simp only [List.length_drop, List.length_take]; rfl)) ?_; (with_reducible refine (num_From.calls kj3 a0 0 t142 _ A14.out).mono ?_); rintro e w21 ⟨rfl, hb⟩; refine ⟨_, rfl, ?_⟩; have n0_ := Aside0.mk (below_step (by repeat (first | (with_reducible first | exact HB.out | apply below_alloc | apply pw_below_drewN | apply below_drew1) | exact HB.out)) hb); clear HB; have HB := n0_; clear n0_; (try clear hb); (try clear hb2); (try clear hk); (try clear hi)) | (go_at_call 22; (with_reducible refine (num_To.calls kj3 a0 0 t143 _ A16.out).mono ?_); rintro e w' ⟨rfl, ⟨nd, rfl⟩⟩))
            go_ret
            exact ⟨by first | rfl | (simp [errW_none, errW_some] <;> rfl) | (simp [*, errW_none, errW_some] <;> rfl), by repeat (first | (with_reducible first | exact HB.out | apply below_alloc | apply pw_below_drewN | apply below_drew1) | exact HB.out)⟩
        · rw [if_neg c15] at H
          have c15b0 : (t142 == 0) = false := beq_eq_false_iff_ne.mpr c15
          have c15b1 : (t142 != 0) = true := bne_iff_ne.mpr c15
          obtain rfl := Option.some.inj H
          go_wp2_with (first | ((with_reducible refine gate_callee (f := 20) rfl ?_); refine goesL_ (some 32) rfl rfl Try.func20 (by kernel_rfl) rfl #[.int .i64 a0, .int .u64 0] rfl (by (try simp only [List.map_toArray, List.map_cons, List.map_nil]); first | done | rfl | (simp only [List.length_drop, List.length_take]; rfl)) ?_; (with_reducible refine (num_From.calls kj3 a0 0 t142 _ A14.out).mono ?_); rintro e w22 ⟨rfl, hb⟩; refine ⟨_, rfl, ?_⟩; have n0_ := Aside0.mk (below_step (by repeat (first | (with_reducible first | exact HB.out | apply below_alloc | apply pw_below_drewN | apply below_drew1) | exact HB.out)) hb); clear HB; have HB := n0_; clear n0_; (try clear hb); (try clear hb2); (try clear hk); (try clear hi)))
          go_ret
          exact ⟨by first | rfl | (simp [errW_none, errW_some] <;> rfl) | (simp [*, errW_none, errW_some] <;> rfl), by repeat (first | (with_reducible first | exact HB.out | apply below_alloc | apply pw_below_drewN | apply below_drew1) | exact HB.out)⟩

/-- THE ONE PURE STATEMENT of ecdysislaw12_NumShort: yours. -/
def ecdysislaw12_NumShort.Pure : Prop := ∀ (a0 : Int) (a1 : Int) (a2 : Int), (Lit.int .i64 a0).wf = true → (Lit.int .u32 a1).wf = true → (Lit.int .u32 a2).wf = true → ∃ k, ecdysislaw12_NumShort.f k a0 a1 a2 = some true
theorem ecdysislaw12_NumShort.walk (P : ecdysislaw12_NumShort.Pure) (a0 : Int) (a1 : Int) (a2 : Int) (w : World) (w0 : (Lit.int .i64 a0).wf = true) (w1 : (Lit.int .u32 a1).wf = true) (w2 : (Lit.int .u32 a2).wf = true) :
    Calls Try.prog 7 #[.int .i64 a0, .int .u32 a1, .int .u32 a2] w fun e w' => e = .returned (.bool true) ∧ Below w.heap.size w w' := by
  obtain ⟨k, h⟩ := P a0 a1 a2 w0 w1 w2
  refine (ecdysislaw12_NumShort.calls k a0 a1 a2 true w h).mono ?_
  rintro e w' ⟨rfl, hd⟩
  exact ⟨rfl, hd⟩

/-! ### scalar_Whole: function 43 -/
def scalar_Whole.f (a0 : Int) : Option (Bool) := (scalar_kind.f a0).bind fun t145 => (some ((Go.bits .and .i64 t145 1) != 0))
set_option maxHeartbeats 8000000 in
set_option maxRecDepth 100000 in
theorem scalar_Whole.calls (a0 : Int) (r : Bool) (w : World) (h : scalar_Whole.f a0 = some r) :
    Calls Try.prog 43 #[.int .i64 a0] w fun e w' => e = .returned (.bool r) ∧ Drawn0 w w' := by
  have H : ((scalar_kind.f a0).bind fun t145 => (some ((Go.bits .and .i64 t145 1) != 0))) = some r := h
  clear h
  replace H := Option.bind_eq_some_iff.mp H
  obtain ⟨t145, A20, H⟩ := H
  replace H : (some ((Go.bits .and .i64 t145 1) != 0)) = some r := H
  have A2 := Aside0.mk A20
  clear A20
  obtain rfl := Option.some.inj H
  go_enter Try.func43, Try.ntmps43
  go_wp2_with (first | ((with_reducible refine gate_callee (f := 67) rfl ?_); refine goesL_ (some 4) rfl rfl Try.func67 (by kernel_rfl) rfl #[.int .i64 a0] rfl (by (try simp only [List.map_toArray, List.map_cons, List.map_nil]); first | done | rfl | (simp only [List.length_drop, List.length_take]; rfl)) ?_; (with_reducible refine (scalar_kind.calls a0 t145 _ A2.out).mono ?_); rintro e w' ⟨rfl, ⟨nd, rfl⟩⟩; refine ⟨_, rfl, ?_⟩))
  go_ret
  exact ⟨by first | rfl | (simp; done) | (simp [*]; done), by repeat (first | exact Drawn0.refl _ | apply Drawn0.step)⟩

/-! ### scalar_Signed: function 46 -/
def scalar_Signed.f (a0 : Int) : Option (Bool) := (scalar_kind.f a0).bind fun t146 => (some ((Go.bits .and .i64 t146 4) != 0))
set_option maxHeartbeats 8000000 in
set_option maxRecDepth 100000 in
theorem scalar_Signed.calls (a0 : Int) (r : Bool) (w : World) (h : scalar_Signed.f a0 = some r) :
    Calls Try.prog 46 #[.int .i64 a0] w fun e w' => e = .returned (.bool r) ∧ Drawn0 w w' := by
  have H : ((scalar_kind.f a0).bind fun t146 => (some ((Go.bits .and .i64 t146 4) != 0))) = some r := h
  clear h
  replace H := Option.bind_eq_some_iff.mp H
  obtain ⟨t146, A20, H⟩ := H
  replace H : (some ((Go.bits .and .i64 t146 4) != 0)) = some r := H
  have A2 := Aside0.mk A20
  clear A20
  obtain rfl := Option.some.inj H
  go_enter Try.func46, Try.ntmps46
  go_wp2_with (first | ((with_reducible refine gate_callee (f := 67) rfl ?_); refine goesL_ (some 4) rfl rfl Try.func67 (by kernel_rfl) rfl #[.int .i64 a0] rfl (by (try simp only [List.map_toArray, List.map_cons, List.map_nil]); first | done | rfl | (simp only [List.length_drop, List.length_take]; rfl)) ?_; (with_reducible refine (scalar_kind.calls a0 t146 _ A2.out).mono ?_); rintro e w' ⟨rfl, ⟨nd, rfl⟩⟩; refine ⟨_, rfl, ?_⟩))
  go_ret
  exact ⟨by first | rfl | (simp; done) | (simp [*]; done), by repeat (first | exact Drawn0.refl _ | apply Drawn0.step)⟩

/-! ### scalar_Wide: function 48 -/
def scalar_Wide.f (a0 : Int) : Option (Bool) := (scalar_kind.f a0).bind fun t147 => (some ((Go.bits .and .i64 t147 8) != 0))
set_option maxHeartbeats 8000000 in
set_option maxRecDepth 100000 in
theorem scalar_Wide.calls (a0 : Int) (r : Bool) (w : World) (h : scalar_Wide.f a0 = some r) :
    Calls Try.prog 48 #[.int .i64 a0] w fun e w' => e = .returned (.bool r) ∧ Drawn0 w w' := by
  have H : ((scalar_kind.f a0).bind fun t147 => (some ((Go.bits .and .i64 t147 8) != 0))) = some r := h
  clear h
  replace H := Option.bind_eq_some_iff.mp H
  obtain ⟨t147, A20, H⟩ := H
  replace H : (some ((Go.bits .and .i64 t147 8) != 0)) = some r := H
  have A2 := Aside0.mk A20
  clear A20
  obtain rfl := Option.some.inj H
  go_enter Try.func48, Try.ntmps48
  go_wp2_with (first | ((with_reducible refine gate_callee (f := 67) rfl ?_); refine goesL_ (some 4) rfl rfl Try.func67 (by kernel_rfl) rfl #[.int .i64 a0] rfl (by (try simp only [List.map_toArray, List.map_cons, List.map_nil]); first | done | rfl | (simp only [List.length_drop, List.length_take]; rfl)) ?_; (with_reducible refine (scalar_kind.calls a0 t147 _ A2.out).mono ?_); rintro e w' ⟨rfl, ⟨nd, rfl⟩⟩; refine ⟨_, rfl, ?_⟩))
  go_ret
  exact ⟨by first | rfl | (simp; done) | (simp [*]; done), by repeat (first | exact Drawn0.refl _ | apply Drawn0.step)⟩

/-! ### span_signed: function 62 -/
def span_signed.f (a0 : Int) : Option (Int × Int) := if a0 = 32 then some (-2147483648, 2147483647) else if a0 = 64 then some (-9223372036854775808, 9223372036854775807) else none
set_option maxHeartbeats 8000000 in
set_option maxRecDepth 100000 in
theorem span_signed.calls (a0 : Int) (r1 : Int) (r2 : Int) (w : World) (h : span_signed.f a0 = some (r1, r2)) :
    Calls Try.prog 62 #[.int .i64 a0] w fun e w' => e = .returned (.agg #[.int .i64 r1, .int .u64 r2]) ∧ Below w.heap.size w w' := by
  unfold span_signed.f at h
  by_cases c : a0 = 32
  · rw [if_pos c] at h
    simp only [Option.some.injEq, Prod.mk.injEq] at h
    obtain ⟨rfl, rfl⟩ := h
    subst c
    go_enter Try.func62, Try.ntmps62
    go_wp2
    try (go_region; go_wp2)
    exact bodyPost_ret (v := .agg #[.int .i64 (-2147483648), .int .u64 2147483647]) (by first | (simp [results, Try.results62, go_sem]; done) | (simp [results, Try.results62, go_sem, IntKind.wrap, IntKind.bits, IntKind.signed]; done)) rfl ⟨rfl, by first | exact ((Below.refl _ _).alloc (Nat.le_refl _) _).drew | exact ((Below.refl _ _).alloc (Nat.le_refl _) _)⟩
  rw [if_neg c] at h
  by_cases c2 : a0 = 64
  · rw [if_pos c2] at h
    simp only [Option.some.injEq, Prod.mk.injEq] at h
    obtain ⟨rfl, rfl⟩ := h
    subst c2
    go_enter Try.func62, Try.ntmps62
    go_wp2
    try (go_region; go_wp2)
    exact bodyPost_ret (v := .agg #[.int .i64 (-9223372036854775808), .int .u64 9223372036854775807]) (by first | (simp [results, Try.results62, go_sem]; done) | (simp [results, Try.results62, go_sem, IntKind.wrap, IntKind.bits, IntKind.signed]; done)) rfl ⟨rfl, by first | exact ((Below.refl _ _).alloc (Nat.le_refl _) _).drew | exact ((Below.refl _ _).alloc (Nat.le_refl _) _)⟩
  · rw [if_neg c2] at h
    cases h

end Go.Proofs.Ytddomdjphkalcaa.Px
