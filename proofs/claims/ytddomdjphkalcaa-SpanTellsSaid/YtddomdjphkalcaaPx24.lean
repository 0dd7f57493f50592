-- Printed by myprint.py, a program of this session's repo, over the kit's printer; hand texts of the session stand in it
import Derived.Test.YtddomdjphkalcaaPx0
import Derived.Test.YtddomdjphkalcaaPx14
import Derived.Test.YtddomdjphkalcaaPx22
import Derived.Test.YtddomdjphkalcaaPx23
namespace Go.Proofs.Ytddomdjphkalcaa.Px
open Go.RowKit Go.Proofs.YtddomdjphkalcaaW.PrintWords Go.Proofs.YtddomdjphkalcaaW.PrintLast Go.Proofs.YtddomdjphkalcaaW.PrintMore
attribute [local go_sem] max2_int min2_int max_two min_two max_three min_three max_four min_four   -- for this text's walks alone
set_option linter.unusedVariables false
set_option linter.unusedSimpArgs false

/-! ### ecdysislaw11_live: function 36 -/
def ecdysislaw11_live.f (k : Nat)  : Option (Bool) := (scalar_Of.f k (⟨#[115, 105, 110, 116, 51, 50]⟩ : ByteArray)).bind fun t220 => (if t220 = 5 then ((scalar_Wire.f k 5).bind fun t221 => (if t221 = 0 then ((scalar_May.f k 1 4294967295).bind fun t222 => (if t222 = true then (some false) else ((scalar_Word.f 1).bind fun t223 => (some (t223.toList == ([105, 110, 116, 51, 50] : List UInt8)))))) else (some false))) else (some false))
theorem ecdysislaw11_live.mono : ∀ k, LeO (ecdysislaw11_live.f k ) (ecdysislaw11_live.f (k + 1) ) := by
  intro  k
  unfold ecdysislaw11_live.f
  repeat' first
      | (with_reducible exact scalar_May.mono _ _ _)
      | (with_reducible exact scalar_Of.mono _ _)
      | (with_reducible exact scalar_Wire.mono _ _)
      | (with_reducible exact LeO.refl _)
      | (with_reducible exact LeO.none _)
      | (with_reducible refine LeO.ite ?_ ?_)
      | (with_reducible refine LeO.bind ?_ (fun _ => ?_))
      | exact scalar_May.mono _ _ _
      | exact scalar_Of.mono _ _
      | exact scalar_Wire.mono _ _
      | exact LeO.none _
      | refine LeO.ite ?_ ?_
      | refine LeO.bind ?_ (fun _ => ?_)
set_option maxHeartbeats 8000000 in
set_option maxRecDepth 100000 in
theorem ecdysislaw11_live.calls (k : Nat)  (r : Bool) (w : World) (h : ecdysislaw11_live.f k  = some r) :
    Calls Try.prog 36 #[] w fun e w' => e = .returned (.bool r) ∧ Drawn0 w w' := by
  have H : ((scalar_Of.f k (⟨#[115, 105, 110, 116, 51, 50]⟩ : ByteArray)).bind fun t220 => (if t220 = 5 then ((scalar_Wire.f k 5).bind fun t221 => (if t221 = 0 then ((scalar_May.f k 1 4294967295).bind fun t222 => (if t222 = true then (some false) else ((scalar_Word.f 1).bind fun t223 => (some (t223.toList == ([105, 110, 116, 51, 50] : List UInt8)))))) else (some false))) else (some false))) = some r := h
  clear h
  replace H := Option.bind_eq_some_iff.mp H
  obtain ⟨t220, A10, H⟩ := H
  replace H : (if t220 = 5 then ((scalar_Wire.f k 5).bind fun t221 => (if t221 = 0 then ((scalar_May.f k 1 4294967295).bind fun t222 => (if t222 = true then (some false) else ((scalar_Word.f 1).bind fun t223 => (some (t223.toList == ([105, 110, 116, 51, 50] : List UInt8)))))) else (some false))) else (some false)) = some r := H
  have A1 := Aside0.mk A10
  clear A10
  by_cases c2 : t220 = 5
  · rw [if_pos c2] at H
    have c2b0 : (t220 == 5) = true := beq_iff_eq.mpr c2
    have c2b1 : (t220 != 5) = false := bne_eq_false_iff_eq.mpr c2
    clear c2
    replace H := Option.bind_eq_some_iff.mp H
    obtain ⟨t221, A30, H⟩ := H
    replace H : (if t221 = 0 then ((scalar_May.f k 1 4294967295).bind fun t222 => (if t222 = true then (some false) else ((scalar_Word.f 1).bind fun t223 => (some (t223.toList == ([105, 110, 116, 51, 50] : List UInt8)))))) else (some false)) = some r := H
    have A3 := Aside0.mk A30
    clear A30
    by_cases c4 : t221 = 0
    · rw [if_pos c4] at H
      have c4b0 : (t221 == 0) = true := beq_iff_eq.mpr c4
      have c4b1 : (t221 != 0) = false := bne_eq_false_iff_eq.mpr c4
      clear c4
      replace H := Option.bind_eq_some_iff.mp H
      obtain ⟨t222, A50, H⟩ := H
      replace H : (if t222 = true then (some false) else ((scalar_Word.f 1).bind fun t223 => (some (t223.toList == ([105, 110, 116, 51, 50] : List UInt8))))) = some r := H
      have A5 := Aside0.mk A50
      clear A50
      by_cases c6 : t222 = true
      · subst c6
        have H1 : (some false) = some r := by rw [if_pos rfl] at H; exact H
        clear H
        have H := H1
        clear H1
        obtain rfl := Option.some.inj H
        go_enter Try.func36, Try.ntmps36
        go_wp2_with (first | ((with_reducible refine gate_callee (f := 37) rfl ?_); refine goesL_ (some 1) rfl rfl Try.func37 (by kernel_rfl) rfl #[.string (⟨#[115, 105, 110, 116, 51, 50]⟩ : ByteArray)] rfl (by (try simp only [List.map_toArray, List.map_cons, List.map_nil]); first | done | rfl | (simp only [List.length_drop, List.length_take]; rfl)) ?_; (with_reducible refine (scalar_Of.calls k (⟨#[115, 105, 110, 116, 51, 50]⟩ : ByteArray) t220 _ A1.out).mono ?_); rintro e w' ⟨rfl, ⟨nd, rfl⟩⟩; refine ⟨_, rfl, ?_⟩) | (go_at_call 41; (with_reducible refine (scalar_Wire.calls k 5 t221 _ A3.out).mono ?_); rintro e w' ⟨rfl, ⟨nd, rfl⟩⟩) | (go_at_call 49; (with_reducible refine (scalar_May.calls k 1 4294967295 true _ A5.out).mono ?_); rintro e w' ⟨rfl, ⟨nd, rfl⟩⟩))
        go_ret
        exact ⟨by first | rfl | (simp; done) | (simp [*]; done), by repeat (first | exact Drawn0.refl _ | apply Drawn0.step)⟩
      · replace c6 := Bool.eq_false_iff.mpr c6
        subst c6
        have H1 : ((scalar_Word.f 1).bind fun t223 => (some (t223.toList == ([105, 110, 116, 51, 50] : List UInt8)))) = some r := by rw [if_neg (show ¬ (false = true) by decide)] at H; exact H
        clear H
        have H := H1
        clear H1
        replace H := Option.bind_eq_some_iff.mp H
        obtain ⟨t223, A70, H⟩ := H
        replace H : (some (t223.toList == ([105, 110, 116, 51, 50] : List UInt8))) = some r := H
        have A7 := Aside0.mk A70
        clear A70
        obtain rfl := Option.some.inj H
        go_enter Try.func36, Try.ntmps36
        go_wp2_with (first | ((with_reducible refine gate_callee (f := 37) rfl ?_); refine goesL_ (some 1) rfl rfl Try.func37 (by kernel_rfl) rfl #[.string (⟨#[115, 105, 110, 116, 51, 50]⟩ : ByteArray)] rfl (by (try simp only [List.map_toArray, List.map_cons, List.map_nil]); first | done | rfl | (simp only [List.length_drop, List.length_take]; rfl)) ?_; (with_reducible refine (scalar_Of.calls k (⟨#[115, 105, 110, 116, 51, 50]⟩ : ByteArray) t220 _ A1.out).mono ?_); rintro e w' ⟨rfl, ⟨nd, rfl⟩⟩; refine ⟨_, rfl, ?_⟩) | (go_at_call 41; (with_reducible refine (scalar_Wire.calls k 5 t221 _ A3.out).mono ?_); rintro e w' ⟨rfl, ⟨nd, rfl⟩⟩) | (go_at_call 49; (with_reducible refine (scalar_May.calls k 1 4294967295 false _ A5.out).mono ?_); rintro e w' ⟨rfl, ⟨nd, rfl⟩⟩) | (go_at_call 39; (with_reducible refine (scalar_Word.calls 1 t223 _ A7.out).mono ?_); rintro e w' ⟨rfl, ⟨nd, rfl⟩⟩))
        go_ret
        exact ⟨by first | rfl | (simp; done) | (simp [*]; done), by repeat (first | exact Drawn0.refl _ | apply Drawn0.step)⟩
    · rw [if_neg c4] at H
      have c4b0 : (t221 == 0) = false := beq_eq_false_iff_ne.mpr c4
      have c4b1 : (t221 != 0) = true := bne_iff_ne.mpr c4
      obtain rfl := Option.some.inj H
      go_enter Try.func36, Try.ntmps36
      go_wp2_with (first | ((with_reducible refine gate_callee (f := 37) rfl ?_); refine goesL_ (some 1) rfl rfl Try.func37 (by kernel_rfl) rfl #[.string (⟨#[115, 105, 110, 116, 51, 50]⟩ : ByteArray)] rfl (by (try simp only [List.map_toArray, List.map_cons, List.map_nil]); first | done | rfl | (simp only [List.length_drop, List.length_take]; rfl)) ?_; (with_reducible refine (scalar_Of.calls k (⟨#[115, 105, 110, 116, 51, 50]⟩ : ByteArray) t220 _ A1.out).mono ?_); rintro e w' ⟨rfl, ⟨nd, rfl⟩⟩; refine ⟨_, rfl, ?_⟩) | (go_at_call 41; (with_reducible refine (scalar_Wire.calls k 5 t221 _ A3.out).mono ?_); rintro e w' ⟨rfl, ⟨nd, rfl⟩⟩))
      go_ret
      exact ⟨by first | rfl | (simp; done) | (simp [*]; done), by repeat (first | exact Drawn0.refl _ | apply Drawn0.step)⟩
  · rw [if_neg c2] at H
    have c2b0 : (t220 == 5) = false := beq_eq_false_iff_ne.mpr c2
    have c2b1 : (t220 != 5) = true := bne_iff_ne.mpr c2
    obtain rfl := Option.some.inj H
    go_enter Try.func36, Try.ntmps36
    go_wp2_with (first | ((with_reducible refine gate_callee (f := 37) rfl ?_); refine goesL_ (some 1) rfl rfl Try.func37 (by kernel_rfl) rfl #[.string (⟨#[115, 105, 110, 116, 51, 50]⟩ : ByteArray)] rfl (by (try simp only [List.map_toArray, List.map_cons, List.map_nil]); first | done | rfl | (simp only [List.length_drop, List.length_take]; rfl)) ?_; (with_reducible refine (scalar_Of.calls k (⟨#[115, 105, 110, 116, 51, 50]⟩ : ByteArray) t220 _ A1.out).mono ?_); rintro e w' ⟨rfl, ⟨nd, rfl⟩⟩; refine ⟨_, rfl, ?_⟩))
    go_ret
    exact ⟨by first | rfl | (simp; done) | (simp [*]; done), by repeat (first | exact Drawn0.refl _ | apply Drawn0.step)⟩

/-! ### ecdysisref11_words: function 66 -/
def ecdysisref11_words.f  : Option (List ByteArray) := some (([(⟨#[]⟩ : ByteArray), (⟨#[105, 110, 116, 51, 50]⟩ : ByteArray), (⟨#[105, 110, 116, 54, 52]⟩ : ByteArray), (⟨#[117, 105, 110, 116, 51, 50]⟩ : ByteArray), (⟨#[117, 105, 110, 116, 54, 52]⟩ : ByteArray), (⟨#[115, 105, 110, 116, 51, 50]⟩ : ByteArray), (⟨#[115, 105, 110, 116, 54, 52]⟩ : ByteArray), (⟨#[98, 111, 111, 108]⟩ : ByteArray), (⟨#[102, 105, 120, 101, 100, 51, 50]⟩ : ByteArray), (⟨#[102, 105, 120, 101, 100, 54, 52]⟩ : ByteArray), (⟨#[115, 102, 105, 120, 101, 100, 51, 50]⟩ : ByteArray), (⟨#[115, 102, 105, 120, 101, 100, 54, 52]⟩ : ByteArray), (⟨#[115, 116, 114, 105, 110, 103]⟩ : ByteArray), (⟨#[98, 121, 116, 101, 115]⟩ : ByteArray)] : List ByteArray))
set_option maxHeartbeats 8000000 in
set_option maxRecDepth 100000 in
theorem ecdysisref11_words.calls  (r : List ByteArray) (w : World) (h : ecdysisref11_words.f  = some r) :
    Calls Try.prog 66 #[] w fun e w' => ∃ v0_ : Value, e = .returned (v0_) ∧ Kd.R Kd.string 9 w' w.heap.size (fun _ => True) v0_ r ∧ Below w.heap.size w w' := by
  have HB := Aside0.mk (Below.refl w.heap.size w)
  have H : (some (([(⟨#[]⟩ : ByteArray), (⟨#[105, 110, 116, 51, 50]⟩ : ByteArray), (⟨#[105, 110, 116, 54, 52]⟩ : ByteArray), (⟨#[117, 105, 110, 116, 51, 50]⟩ : ByteArray), (⟨#[117, 105, 110, 116, 54, 52]⟩ : ByteArray), (⟨#[115, 105, 110, 116, 51, 50]⟩ : ByteArray), (⟨#[115, 105, 110, 116, 54, 52]⟩ : ByteArray), (⟨#[98, 111, 111, 108]⟩ : ByteArray), (⟨#[102, 105, 120, 101, 100, 51, 50]⟩ : ByteArray), (⟨#[102, 105, 120, 101, 100, 54, 52]⟩ : ByteArray), (⟨#[115, 102, 105, 120, 101, 100, 51, 50]⟩ : ByteArray), (⟨#[115, 102, 105, 120, 101, 100, 54, 52]⟩ : ByteArray), (⟨#[115, 116, 114, 105, 110, 103]⟩ : ByteArray), (⟨#[98, 121, 116, 101, 115]⟩ : ByteArray)] : List ByteArray))) = some r := h
  clear h
  obtain ⟨y224, hy224⟩ : ∃ y_ : List ByteArray, y_ = (([(⟨#[]⟩ : ByteArray), (⟨#[105, 110, 116, 51, 50]⟩ : ByteArray), (⟨#[105, 110, 116, 54, 52]⟩ : ByteArray), (⟨#[117, 105, 110, 116, 51, 50]⟩ : ByteArray), (⟨#[117, 105, 110, 116, 54, 52]⟩ : ByteArray), (⟨#[115, 105, 110, 116, 51, 50]⟩ : ByteArray), (⟨#[115, 105, 110, 116, 54, 52]⟩ : ByteArray), (⟨#[98, 111, 111, 108]⟩ : ByteArray), (⟨#[102, 105, 120, 101, 100, 51, 50]⟩ : ByteArray), (⟨#[102, 105, 120, 101, 100, 54, 52]⟩ : ByteArray), (⟨#[115, 102, 105, 120, 101, 100, 51, 50]⟩ : ByteArray), (⟨#[115, 102, 105, 120, 101, 100, 54, 52]⟩ : ByteArray), (⟨#[115, 116, 114, 105, 110, 103]⟩ : ByteArray), (⟨#[98, 121, 116, 101, 115]⟩ : ByteArray)] : List ByteArray)) := ⟨_, rfl⟩
  replace H : (some y224) = some r := by first | (rw [hy224]; with_reducible exact H) | (have H2_ := (Option.bind_some _ _).symm.trans H; rw [hy224]; with_reducible exact H2_) | (have H2_ := (Option.bind_some _ _).symm.trans H; with_reducible exact H2_) | with_reducible exact H | (rw [hy224]; exact H) | exact H
  have Ny224 := Aside0.mk hy224
  clear hy224
  obtain rfl := Option.some.inj H
  go_enter Try.func66, Try.ntmps66
  go_wp2_with (first | ((with_reducible refine gate_dst (N := 1) rfl ?_); refine Kd.R_lit Kd.string _ 9 ?hg (N := 1) ?hd (xs := ([(⟨#[]⟩ : ByteArray), (⟨#[105, 110, 116, 51, 50]⟩ : ByteArray), (⟨#[105, 110, 116, 54, 52]⟩ : ByteArray), (⟨#[117, 105, 110, 116, 51, 50]⟩ : ByteArray), (⟨#[117, 105, 110, 116, 54, 52]⟩ : ByteArray), (⟨#[115, 105, 110, 116, 51, 50]⟩ : ByteArray), (⟨#[115, 105, 110, 116, 54, 52]⟩ : ByteArray), (⟨#[98, 111, 111, 108]⟩ : ByteArray), (⟨#[102, 105, 120, 101, 100, 51, 50]⟩ : ByteArray), (⟨#[102, 105, 120, 101, 100, 54, 52]⟩ : ByteArray), (⟨#[115, 102, 105, 120, 101, 100, 51, 50]⟩ : ByteArray), (⟨#[115, 102, 105, 120, 101, 100, 54, 52]⟩ : ByteArray), (⟨#[115, 116, 114, 105, 110, 103]⟩ : ByteArray), (⟨#[98, 121, 116, 101, 115]⟩ : ByteArray)] : List ByteArray)) (inner := [.string (⟨#[]⟩ : ByteArray), .string (⟨#[105, 110, 116, 51, 50]⟩ : ByteArray), .string (⟨#[105, 110, 116, 54, 52]⟩ : ByteArray), .string (⟨#[117, 105, 110, 116, 51, 50]⟩ : ByteArray), .string (⟨#[117, 105, 110, 116, 54, 52]⟩ : ByteArray), .string (⟨#[115, 105, 110, 116, 51, 50]⟩ : ByteArray), .string (⟨#[115, 105, 110, 116, 54, 52]⟩ : ByteArray), .string (⟨#[98, 111, 111, 108]⟩ : ByteArray), .string (⟨#[102, 105, 120, 101, 100, 51, 50]⟩ : ByteArray), .string (⟨#[102, 105, 120, 101, 100, 54, 52]⟩ : ByteArray), .string (⟨#[115, 102, 105, 120, 101, 100, 51, 50]⟩ : ByteArray), .string (⟨#[115, 102, 105, 120, 101, 100, 54, 52]⟩ : ByteArray), .string (⟨#[115, 116, 114, 105, 110, 103]⟩ : ByteArray), .string (⟨#[98, 121, 116, 101, 115]⟩ : ByteArray)]) (ok := fun _ => True) (okp := fun _ => True) ?hr ?hp (fun _ hk => hk) trivial (Below.refl _ _) (Nat.le_refl _) (by simp) ?_; (case hd => rfl); (case hg => rfl); (case hr => first | (go_simp; done) | (go_simp; rfl)); (case hp => exact (Reps.one (show Kd.M Kd.string _ _ _ (⟨#[]⟩ : ByteArray) [.string (⟨#[]⟩ : ByteArray)] from rfl) (Reps.one (show Kd.M Kd.string _ _ _ (⟨#[105, 110, 116, 51, 50]⟩ : ByteArray) [.string (⟨#[105, 110, 116, 51, 50]⟩ : ByteArray)] from rfl) (Reps.one (show Kd.M Kd.string _ _ _ (⟨#[105, 110, 116, 54, 52]⟩ : ByteArray) [.string (⟨#[105, 110, 116, 54, 52]⟩ : ByteArray)] from rfl) (Reps.one (show Kd.M Kd.string _ _ _ (⟨#[117, 105, 110, 116, 51, 50]⟩ : ByteArray) [.string (⟨#[117, 105, 110, 116, 51, 50]⟩ : ByteArray)] from rfl) (Reps.one (show Kd.M Kd.string _ _ _ (⟨#[117, 105, 110, 116, 54, 52]⟩ : ByteArray) [.string (⟨#[117, 105, 110, 116, 54, 52]⟩ : ByteArray)] from rfl) (Reps.one (show Kd.M Kd.string _ _ _ (⟨#[115, 105, 110, 116, 51, 50]⟩ : ByteArray) [.string (⟨#[115, 105, 110, 116, 51, 50]⟩ : ByteArray)] from rfl) (Reps.one (show Kd.M Kd.string _ _ _ (⟨#[115, 105, 110, 116, 54, 52]⟩ : ByteArray) [.string (⟨#[115, 105, 110, 116, 54, 52]⟩ : ByteArray)] from rfl) (Reps.one (show Kd.M Kd.string _ _ _ (⟨#[98, 111, 111, 108]⟩ : ByteArray) [.string (⟨#[98, 111, 111, 108]⟩ : ByteArray)] from rfl) (Reps.one (show Kd.M Kd.string _ _ _ (⟨#[102, 105, 120, 101, 100, 51, 50]⟩ : ByteArray) [.string (⟨#[102, 105, 120, 101, 100, 51, 50]⟩ : ByteArray)] from rfl) (Reps.one (show Kd.M Kd.string _ _ _ (⟨#[102, 105, 120, 101, 100, 54, 52]⟩ : ByteArray) [.string (⟨#[102, 105, 120, 101, 100, 54, 52]⟩ : ByteArray)] from rfl) (Reps.one (show Kd.M Kd.string _ _ _ (⟨#[115, 102, 105, 120, 101, 100, 51, 50]⟩ : ByteArray) [.string (⟨#[115, 102, 105, 120, 101, 100, 51, 50]⟩ : ByteArray)] from rfl) (Reps.one (show Kd.M Kd.string _ _ _ (⟨#[115, 102, 105, 120, 101, 100, 54, 52]⟩ : ByteArray) [.string (⟨#[115, 102, 105, 120, 101, 100, 54, 52]⟩ : ByteArray)] from rfl) (Reps.one (show Kd.M Kd.string _ _ _ (⟨#[115, 116, 114, 105, 110, 103]⟩ : ByteArray) [.string (⟨#[115, 116, 114, 105, 110, 103]⟩ : ByteArray)] from rfl) (Reps.one (show Kd.M Kd.string _ _ _ (⟨#[98, 121, 116, 101, 115]⟩ : ByteArray) [.string (⟨#[98, 121, 116, 101, 115]⟩ : ByteArray)] from rfl) (Reps.none _ _)))))))))))))))); intro v225 w1 ho2 hb hg_ hnew_; clear hg_ hnew_; (first | rw [← Ny224.out] at ho2 | (simp only [Int.reduceToNat] at ho2; rw [← Ny224.out] at ho2)); have n0_ := Aside0.mk (Kd.R_lower ho2 (below_size (by repeat (first | (with_reducible first | exact HB.out | apply below_alloc | apply pw_below_drewN | apply below_drew1) | exact HB.out)))); have n1_ := Aside0.mk (below_step (by repeat (first | (with_reducible first | exact HB.out | apply below_alloc | apply pw_below_drewN | apply below_drew1) | exact HB.out)) hb); clear HB; have HO226 := n0_; have HB := n1_; clear n0_ n1_; clear hb ho2))
  go_ret
  exact ⟨_, by first | rfl | (simp [errW_none, errW_some] <;> rfl) | (simp [*, errW_none, errW_some] <;> rfl), by (with_reducible repeat (first | apply Kd.R_alloc | apply Kd.R_drewN | apply Kd.R_drew)); exact HO226.out, by repeat (first | (with_reducible first | exact HB.out | apply below_alloc | apply pw_below_drewN | apply below_drew1) | exact HB.out)⟩

/-! ### ecdysisref11_Of: function 38 -/
def ecdysisref11_Of.l0 : Nat → ByteArray → List ByteArray → Int → Option (Int)
  | 0, _, _, _ => none
  | k + 1, x0, x3, x4 => if x4 < (x3.length : Int) then (if 0 ≤ x4 then (if (rdOf ByteArray.empty x3 x4).toList = x0.toList then (some x4) else (ecdysisref11_Of.l0 k x0 x3 (wrap64 (x4 + 1)))) else (none)) else (some 0)
def ecdysisref11_Of.f (k : Nat) (a0 : ByteArray) : Option (Int) := (ecdysisref11_words.f).bind fun t227 => (ecdysisref11_Of.l0 k a0 t227 1)
theorem ecdysisref11_Of.mono_l : ∀ k, (∀ y0 y1 y2, LeO (ecdysisref11_Of.l0 k y0 y1 y2) (ecdysisref11_Of.l0 (k + 1) y0 y1 y2))
  | 0 => fun _ _ _ r h => by simp [ecdysisref11_Of.l0] at h
  | k + 1 => by
    have ih0 := ecdysisref11_Of.mono_l k
    · intro y0 y1 y2
      unfold ecdysisref11_Of.l0
      repeat' first
      | (with_reducible exact ih0 _ _ _)
      | (with_reducible exact LeO.refl _)
      | (with_reducible exact LeO.none _)
      | (with_reducible refine LeO.ite ?_ ?_)
      | (with_reducible refine LeO.bind ?_ (fun _ => ?_))
      | exact ih0 _ _ _
      | exact LeO.none _
      | refine LeO.ite ?_ ?_
      | refine LeO.bind ?_ (fun _ => ?_)
theorem ecdysisref11_Of.mono : ∀ a0 k, LeO (ecdysisref11_Of.f k a0) (ecdysisref11_Of.f (k + 1) a0) := by
  intro a0 k
  have ih0 := ecdysisref11_Of.mono_l k
  unfold ecdysisref11_Of.f
  repeat' first
      | (with_reducible exact ih0 _ _ _)
      | (with_reducible exact LeO.refl _)
      | (with_reducible exact LeO.none _)
      | (with_reducible refine LeO.ite ?_ ?_)
      | (with_reducible refine LeO.bind ?_ (fun _ => ?_))
      | exact ih0 _ _ _
      | exact LeO.none _
      | refine LeO.ite ?_ ?_
      | refine LeO.bind ?_ (fun _ => ?_)
set_option maxHeartbeats 8000000 in
set_option maxRecDepth 100000 in
theorem ecdysisref11_Of.calls (k : Nat) (a0 : ByteArray) (r : Int) (w : World) (h : ecdysisref11_Of.f k a0 = some r) :
    Calls Try.prog 38 #[.string a0] w fun e w' => e = .returned (.int .i64 r) ∧ Below w.heap.size w w' := by
  have HB := Aside0.mk (Below.refl w.heap.size w)
  have H : ((ecdysisref11_words.f).bind fun t227 => (ecdysisref11_Of.l0 k a0 t227 1)) = some r := h
  clear h
  replace H := Option.bind_eq_some_iff.mp H
  obtain ⟨t227, A20, H⟩ := H
  replace H : (ecdysisref11_Of.l0 k a0 t227 1) = some r := H
  have A2 := Aside0.mk A20
  clear A20
  have H' := Aside0.mk H
  clear H
  go_enter Try.func38, Try.ntmps38
  go_wp2_with (first | ((with_reducible refine gate_callee (f := 66) rfl ?_); refine goesL_ (some 5) rfl rfl Try.func66 (by kernel_rfl) rfl #[] rfl (by (try simp only [List.map_toArray, List.map_cons, List.map_nil]); first | done | rfl | (simp only [List.length_drop, List.length_take]; rfl)) ?_; (with_reducible refine (ecdysisref11_words.calls  t227 _ A2.out).mono ?_); rintro e w3 ⟨v228, rfl, ho0, hb⟩; refine ⟨_, rfl, ?_⟩; have n0_ := Aside0.mk (Kd.R_lower ho0 (below_size (by repeat (first | (with_reducible first | exact HB.out | apply below_alloc | apply pw_below_drewN | apply below_drew1) | exact HB.out)))); have n1_ := Aside0.mk (below_step (by repeat (first | (with_reducible first | exact HB.out | apply below_alloc | apply pw_below_drewN | apply below_drew1) | exact HB.out)) hb); clear HB; have HO229 := n0_; have HB := n1_; clear n0_ n1_; (try clear hb); (try clear hb2); (try clear hk); (try clear hi); (try clear ho0)))
  go_loopg [4] k (fun kq v4 w' => ∃ (x4_1 : Int), v4 = .int .i64 x4_1 ∧ Aside0 (ecdysisref11_Of.l0 kq a0 t227 x4_1 = some r) ∧ Aside0 (kq ≤ k) ∧ Aside0 (Kd.R Kd.string 9 w' w.heap.size (fun _ => True) v228 t227) ∧ Aside0 (Below w.heap.size w w'))
  case atStart => exact ⟨(1), (by first | rfl | (simp; done) | (simp [*]; done)), H', ⟨Nat.le_refl _⟩, ⟨by (with_reducible repeat (first | apply Kd.R_alloc | apply Kd.R_drewN | apply Kd.R_drew)); exact HO229.out⟩, ⟨by repeat (first | (with_reducible first | exact HB.out | apply below_alloc | apply pw_below_drewN | apply below_drew1) | exact HB.out)⟩⟩
  case round =>
    clear H'
    try clear p2
    try clear c3
    obtain ⟨x4_1, rfl, HA, HK1, HO_3, HB⟩ := hrel
    cases gk with
    | zero => exact absurd HA.out (by simp [ecdysisref11_Of.l0])
    | succ k1 =>
      have H := HA.out
      clear HA
      simp only [ecdysisref11_Of.l0] at H
      by_cases c4 : x4_1 < (t227.length : Int)
      · rw [if_pos c4] at H
        have c4b0 : decide (x4_1 < (t227.length : Int)) = true := decide_eq_true c4
        clear c4
        by_cases c5 : 0 ≤ x4_1
        · rw [if_pos c5] at H
          have c5b0 : decide (0 ≤ x4_1) = true := decide_eq_true c5
          clear c5
          by_cases c6 : (rdOf ByteArray.empty t227 x4_1).toList = a0.toList
          · rw [if_pos c6] at H
            have c6b0 : ((rdOf ByteArray.empty t227 x4_1).toList == a0.toList) = true := beq_iff_eq.mpr c6
            have c6b1 : ((rdOf ByteArray.empty t227 x4_1).toList != a0.toList) = false := bne_eq_false_iff_eq.mpr c6
            clear c6
            obtain rfl := Option.some.inj H
            obtain ⟨Ao7, co7, eo7⟩ := Kd.R_slice HO_3.out
            subst eo7
            have p230 : 0 ≤ (x4_1 : Int) := of_decide_eq_true (by first | (with_reducible assumption) | assumption)
            have q230 : x4_1 < (t227.length : Int) := of_decide_eq_true (by first | (with_reducible assumption) | assumption)
            obtain ⟨ad230, e230, hx230_0⟩ := Kd.at_string (Kd.R_reads' HO_3.out).2.2 x4_1 p230 q230
            cases e230
            replace p230 := eq_true p230
            replace q230 := eq_true q230
            go_wp2
            go_ret
            exact ⟨by first | rfl | (simp [errW_none, errW_some] <;> rfl) | (simp [*, errW_none, errW_some] <;> rfl), by repeat (first | (with_reducible first | exact HB.out | apply below_alloc | apply pw_below_drewN | apply below_drew1) | exact HB.out)⟩
          · rw [if_neg c6] at H
            have c6b0 : ((rdOf ByteArray.empty t227 x4_1).toList == a0.toList) = false := beq_eq_false_iff_ne.mpr c6
            have c6b1 : ((rdOf ByteArray.empty t227 x4_1).toList != a0.toList) = true := bne_iff_ne.mpr c6
            have H' := Aside0.mk H
            clear H
            obtain ⟨Ao8, co8, eo8⟩ := Kd.R_slice HO_3.out
            subst eo8
            have p230 : 0 ≤ (x4_1 : Int) := of_decide_eq_true (by first | (with_reducible assumption) | assumption)
            have q230 : x4_1 < (t227.length : Int) := of_decide_eq_true (by first | (with_reducible assumption) | assumption)
            obtain ⟨ad230, e230, hx230_0⟩ := Kd.at_string (Kd.R_reads' HO_3.out).2.2 x4_1 p230 q230
            cases e230
            replace p230 := eq_true p230
            replace q230 := eq_true q230
            go_wp2
            go_roundg k1
            case measure => have := HK1.out; omega
            case rel => exact ⟨(wrap64 (x4_1 + 1)), (by first | rfl | (simp; done) | (simp [*]; done)), H', ⟨by have := HK1.out; omega⟩, ⟨by (with_reducible repeat (first | apply Kd.R_alloc | apply Kd.R_drewN | apply Kd.R_drew)); exact HO_3.out⟩, ⟨by repeat (first | (with_reducible first | exact HB.out | apply below_alloc | apply pw_below_drewN | apply below_drew1) | exact HB.out)⟩⟩
        · rw [if_neg c5] at H
          exact absurd H (by simp)
      · rw [if_neg c4] at H
        have c4b0 : decide (x4_1 < (t227.length : Int)) = false := decide_eq_false c4
        clear c4
        obtain rfl := Option.some.inj H
        obtain ⟨Ao9, co9, eo9⟩ := Kd.R_slice HO_3.out
        subst eo9
        go_wp2
        go_ret
        exact ⟨by first | rfl | (simp [errW_none, errW_some] <;> rfl) | (simp [*, errW_none, errW_some] <;> rfl), by repeat (first | (with_reducible first | exact HB.out | apply below_alloc | apply pw_below_drewN | apply below_drew1) | exact HB.out)⟩

end Go.Proofs.Ytddomdjphkalcaa.Px
