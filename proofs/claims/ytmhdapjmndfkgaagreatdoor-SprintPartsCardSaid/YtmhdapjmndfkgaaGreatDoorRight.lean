/- ident.Right, told: which texts are names; for the engine. -/
import Derived.Test.YtmhdapjmndfkgaaGreatDoorSpW
import Derived.Laws.RangeString
import Derived.Laws.RangeAny
import Derived.Lib.Walk
import Derived.WalkKit
import Derived.ProofKit
import Derived.RegionTactic
import Derived.BigCall
import Derived.BigGuard
import Derived.CellFam
import Derived.Shelf.RegionOpenPlain
namespace Go.Proofs.YtmhdapjmndfkgaaGreatDoor.Prim
open Go Go.RowKit Go.Proofs.YtmhdapjmndfkgaaGreatDoor.Eng
set_option linter.unusedSimpArgs false
set_option linter.unusedVariables false
structure Aside0 (p : Prop) : Prop where mk :: (out : p)
open Sp Sp.W
def letterB (c : Int) : Bool := decide ((97 ≤ c ∧ c ≤ 122) ∨ (65 ≤ c ∧ c ≤ 90))
def digitB (c : Int) : Bool := decide ((48 ≤ c ∧ c ≤ 57) ∨ c = 95)
def okRune (i : Nat) (c : Int) : Bool := letterB c || (decide (i ≠ 0) && digitB c)
def runesOk (s : ByteArray) : Nat → Nat → Bool
  | 0, _ => true
  | b + 1, pos => if pos < s.size then okRune pos ((Utf8.decode s pos).1 : Int) && runesOk s b (pos + (Utf8.decode s pos).2) else true
def rightO (a0 : ByteArray) : Option (Bool) :=
  if runesOk a0 a0.size 0 = true then (if a0.toList = ([] : List UInt8) then some false else if (a0.size : Int) ≤ 12 then some (!wordF a0) else some false) else some false
theorem ident_width_pos (s : ByteArray) (pos : Nat) (h : pos < s.size) : 1 ≤ (Utf8.decode s pos).2 := by
  by_cases ha : (s[pos]'h).toNat < 128
  · rw [decode_ascii s pos h ha]
    exact Nat.le_refl _
  · exact (decode_high s pos h (by omega)).2
theorem runesOk_end (s : ByteArray) (b pos : Nat) (h : ¬ pos < s.size) : runesOk s b pos = true := by
  cases b with
  | zero => rfl
  | succ b => simp [runesOk, h]
theorem runesOk_bad {s : ByteArray} {b pos : Nat} (h : pos < s.size) (hb : s.size ≤ pos + b) (ho : okRune pos ((Utf8.decode s pos).1 : Int) = false) : runesOk s b pos = false := by
  cases b with
  | zero => omega
  | succ b => simp [runesOk, h, ho]
theorem runesOk_next {s : ByteArray} {b pos : Nat} (h : pos < s.size) (hb : s.size ≤ pos + b) (ho : okRune pos ((Utf8.decode s pos).1 : Int) = true) :
    runesOk s b pos = runesOk s (b - 1) (pos + (Utf8.decode s pos).2) ∧ s.size ≤ pos + (Utf8.decode s pos).2 + (b - 1) := by
  have := ident_width_pos s pos h
  cases b with
  | zero => omega
  | succ b => exact ⟨by simp [runesOk, h, ho], by omega⟩
theorem okRune_letter {i : Nat} {c : Int} (h : (97 ≤ c ∧ c ≤ 122) ∨ (65 ≤ c ∧ c ≤ 90)) : okRune i c = true := by
  unfold okRune letterB; rw [decide_eq_true h]; rfl
theorem okRune_digit {i : Nat} {c : Int} (hi : i ≠ 0) (h : (48 ≤ c ∧ c ≤ 57) ∨ c = 95) : okRune i c = true := by
  unfold okRune digitB; rw [decide_eq_true h, decide_eq_true hi]; simp
theorem okRune_first {c : Int} (h : ¬ ((97 ≤ c ∧ c ≤ 122) ∨ (65 ≤ c ∧ c ≤ 90))) : okRune 0 c = false := by
  unfold okRune letterB; rw [decide_eq_false h]; simp
theorem okRune_none {i : Nat} {c : Int} (h : ¬ ((97 ≤ c ∧ c ≤ 122) ∨ (65 ≤ c ∧ c ≤ 90))) (h2 : ¬ ((48 ≤ c ∧ c ≤ 57) ∨ c = 95)) : okRune i c = false := by
  unfold okRune letterB digitB; rw [decide_eq_false h, decide_eq_false h2]; simp
theorem right_false {a0 : ByteArray} {r : Bool} {b pos : Nat} (H : Aside0 (rightO a0 = some r)) (hc : runesOk a0 b pos = runesOk a0 a0.size 0) (hb : a0.size ≤ pos + b) (hp : pos < a0.size)
    (ho : okRune pos ((Utf8.decode a0 pos).1 : Int) = false) : r = false := by
  have h := H.out
  unfold rightO at h
  rw [← hc, runesOk_bad hp hb ho] at h
  simpa using h.symm
theorem rel_next {a0 : ByteArray} {w : World} {b pos : Nat} (hc : runesOk a0 b pos = runesOk a0 a0.size 0) (hb : a0.size ≤ pos + b) (hp : pos < a0.size)
    (ho : okRune pos ((Utf8.decode a0 pos).1 : Int) = true) :
    ∃ (pos' b' : Nat), w.iter a0 (pos + (Utf8.decode a0 pos).2) = w.iter a0 pos' ∧ runesOk a0 b' pos' = runesOk a0 a0.size 0 ∧ a0.size ≤ pos' + b' :=
  ⟨_, b - 1, rfl, (runesOk_next hp hb ho).1.symm.trans hc, (runesOk_next hp hb ho).2⟩
theorem iter_below (w : World) (s : ByteArray) (p : Nat) : Below w.heap.size w (w.iter s p) := (Below.refl _ _).alloc (Nat.le_refl _) _
set_option maxHeartbeats 8000000 in
set_option maxRecDepth 100000 in
theorem right_calls (a0 : ByteArray) (r : Bool) (w : World) (hword : ∀ (s : ByteArray) (w' : World), Below w.heap.size w w' → Calls Tryz.prog 129 #[.string s] w' fun e w'' => e = .returned (.bool (wordF s)) ∧ Below w'.heap.size w' w'') (h : rightO a0 = some r) :
    Calls Tryz.prog 85 #[.string a0] w fun e w' => e = .returned (.bool r) ∧ Below w.heap.size w w' := by
  have H : Aside0 (rightO a0 = some r) := ⟨h⟩
  have HW := Aside0.mk hword
  clear h hword
  go_enter Tryz.func85, Tryz.ntmps85
  go_wp2
  go_loopw [3] (fun _ w' => ∃ (pos b : Nat), w' = w.iter a0 pos ∧ runesOk a0 b pos = runesOk a0 a0.size 0 ∧ a0.size ≤ pos + b) (fun _ w' => a0.size - w'.iterPos w.heap.size)
  case atStart => exact ⟨0, a0.size, rfl, rfl, by omega⟩
  case round =>
    obtain ⟨pos, b, rfl, hc, hb⟩ := hrel
    by_cases hp : pos < a0.size
    · have hnx : ∀ ty, (Instr.next (.pointer (some ⟨w.heap.size, 0, none⟩)) true ty).run Tryz.prog (w.iter a0 pos) = _ := fun ty => run_next_any w a0 pos ty hp
      have hwd := ident_width_pos a0 pos hp
      have hcl : (97 ≤ ((Utf8.decode a0 pos).1 : Int) ∧ ((Utf8.decode a0 pos).1 : Int) ≤ 122) ∨ (65 ≤ ((Utf8.decode a0 pos).1 : Int) ∧ ((Utf8.decode a0 pos).1 : Int) ≤ 90) ∨ (48 ≤ ((Utf8.decode a0 pos).1 : Int) ∧ ((Utf8.decode a0 pos).1 : Int) ≤ 57) ∨ (95 ≤ ((Utf8.decode a0 pos).1 : Int) ∧ ((Utf8.decode a0 pos).1 : Int) ≤ 95)
          ∨ (((Utf8.decode a0 pos).1 : Int) < 48 ∧ ((Utf8.decode a0 pos).1 : Int) < 48) ∨ (57 < ((Utf8.decode a0 pos).1 : Int) ∧ ((Utf8.decode a0 pos).1 : Int) < 65) ∨ (90 < ((Utf8.decode a0 pos).1 : Int) ∧ ((Utf8.decode a0 pos).1 : Int) < 95) ∨ (95 < ((Utf8.decode a0 pos).1 : Int) ∧ ((Utf8.decode a0 pos).1 : Int) < 97) ∨ (122 < ((Utf8.decode a0 pos).1 : Int) ∧ 122 < ((Utf8.decode a0 pos).1 : Int)) := by omega
      rcases Nat.eq_zero_or_pos pos with rfl | h0
      · rcases hcl with ⟨d1, d2⟩ | ⟨d1, d2⟩ | ⟨d1, d2⟩ | ⟨d1, d2⟩ | ⟨d1, d2⟩ | ⟨d1, d2⟩ | ⟨d1, d2⟩ | ⟨d1, d2⟩ | ⟨d1, d2⟩
        · have ho : okRune 0 ((Utf8.decode a0 0).1 : Int) = true := okRune_letter (by omega)
          have f1 : (decide (((Utf8.decode a0 0).1 : Int) ≤ 122)) = true := decide_eq_true (by omega)
          have f2 : (decide (((Utf8.decode a0 0).1 : Int) ≤ 90)) = false := decide_eq_false (by omega)
          have f3 : (decide (((Utf8.decode a0 0).1 : Int) ≤ 57)) = false := decide_eq_false (by omega)
          have f4 : (((Utf8.decode a0 0).1 : Int) == 95) = false := beq_eq_false_iff_ne.mpr (by omega)
          go_wp2
          all_goals
            go_roundw
            case rel =>
              have z := rel_next (w := w) hc hb hp ho
              first | exact z | simpa using z
            case measure =>
              simp
              omega
        · have ho : okRune 0 ((Utf8.decode a0 0).1 : Int) = true := okRune_letter (by omega)
          have f1 : (decide (((Utf8.decode a0 0).1 : Int) ≤ 122)) = true := decide_eq_true (by omega)
          have f2 : (decide (((Utf8.decode a0 0).1 : Int) ≤ 90)) = true := decide_eq_true (by omega)
          have f3 : (decide (((Utf8.decode a0 0).1 : Int) ≤ 57)) = false := decide_eq_false (by omega)
          have f4 : (((Utf8.decode a0 0).1 : Int) == 95) = false := beq_eq_false_iff_ne.mpr (by omega)
          go_wp2
          all_goals
            go_roundw
            case rel =>
              have z := rel_next (w := w) hc hb hp ho
              first | exact z | simpa using z
            case measure =>
              simp
              omega
        · have ho : okRune 0 ((Utf8.decode a0 0).1 : Int) = false := okRune_first (by omega)
          have f1 : (decide (((Utf8.decode a0 0).1 : Int) ≤ 122)) = true := decide_eq_true (by omega)
          have f2 : (decide (((Utf8.decode a0 0).1 : Int) ≤ 90)) = true := decide_eq_true (by omega)
          have f3 : (decide (((Utf8.decode a0 0).1 : Int) ≤ 57)) = true := decide_eq_true (by omega)
          have f4 : (((Utf8.decode a0 0).1 : Int) == 95) = false := beq_eq_false_iff_ne.mpr (by omega)
          obtain rfl := right_false H hc hb hp ho
          go_wp2
          all_goals
            go_ret
            exact ⟨rfl, iter_below _ _ _⟩
        · have ho : okRune 0 ((Utf8.decode a0 0).1 : Int) = false := okRune_first (by omega)
          have f1 : (decide (((Utf8.decode a0 0).1 : Int) ≤ 122)) = true := decide_eq_true (by omega)
          have f2 : (decide (((Utf8.decode a0 0).1 : Int) ≤ 90)) = false := decide_eq_false (by omega)
          have f3 : (decide (((Utf8.decode a0 0).1 : Int) ≤ 57)) = false := decide_eq_false (by omega)
          have f4 : (((Utf8.decode a0 0).1 : Int) == 95) = true := beq_iff_eq.mpr (by omega)
          obtain rfl := right_false H hc hb hp ho
          go_wp2
          all_goals
            go_ret
            exact ⟨rfl, iter_below _ _ _⟩
        · have ho : okRune 0 ((Utf8.decode a0 0).1 : Int) = false := okRune_first (by omega)
          have f1 : (decide (((Utf8.decode a0 0).1 : Int) ≤ 122)) = true := decide_eq_true (by omega)
          have f2 : (decide (((Utf8.decode a0 0).1 : Int) ≤ 90)) = true := decide_eq_true (by omega)
          have f3 : (decide (((Utf8.decode a0 0).1 : Int) ≤ 57)) = true := decide_eq_true (by omega)
          have f4 : (((Utf8.decode a0 0).1 : Int) == 95) = false := beq_eq_false_iff_ne.mpr (by omega)
          obtain rfl := right_false H hc hb hp ho
          go_wp2
          all_goals
            go_ret
            exact ⟨rfl, iter_below _ _ _⟩
        · have ho : okRune 0 ((Utf8.decode a0 0).1 : Int) = false := okRune_first (by omega)
          have f1 : (decide (((Utf8.decode a0 0).1 : Int) ≤ 122)) = true := decide_eq_true (by omega)
          have f2 : (decide (((Utf8.decode a0 0).1 : Int) ≤ 90)) = true := decide_eq_true (by omega)
          have f3 : (decide (((Utf8.decode a0 0).1 : Int) ≤ 57)) = false := decide_eq_false (by omega)
          have f4 : (((Utf8.decode a0 0).1 : Int) == 95) = false := beq_eq_false_iff_ne.mpr (by omega)
          obtain rfl := right_false H hc hb hp ho
          go_wp2
          all_goals
            go_ret
            exact ⟨rfl, iter_below _ _ _⟩
        · have ho : okRune 0 ((Utf8.decode a0 0).1 : Int) = false := okRune_first (by omega)
          have f1 : (decide (((Utf8.decode a0 0).1 : Int) ≤ 122)) = true := decide_eq_true (by omega)
          have f2 : (decide (((Utf8.decode a0 0).1 : Int) ≤ 90)) = false := decide_eq_false (by omega)
          have f3 : (decide (((Utf8.decode a0 0).1 : Int) ≤ 57)) = false := decide_eq_false (by omega)
          have f4 : (((Utf8.decode a0 0).1 : Int) == 95) = false := beq_eq_false_iff_ne.mpr (by omega)
          obtain rfl := right_false H hc hb hp ho
          go_wp2
          all_goals
            go_ret
            exact ⟨rfl, iter_below _ _ _⟩
        · have ho : okRune 0 ((Utf8.decode a0 0).1 : Int) = false := okRune_first (by omega)
          have f1 : (decide (((Utf8.decode a0 0).1 : Int) ≤ 122)) = true := decide_eq_true (by omega)
          have f2 : (decide (((Utf8.decode a0 0).1 : Int) ≤ 90)) = false := decide_eq_false (by omega)
          have f3 : (decide (((Utf8.decode a0 0).1 : Int) ≤ 57)) = false := decide_eq_false (by omega)
          have f4 : (((Utf8.decode a0 0).1 : Int) == 95) = false := beq_eq_false_iff_ne.mpr (by omega)
          obtain rfl := right_false H hc hb hp ho
          go_wp2
          all_goals
            go_ret
            exact ⟨rfl, iter_below _ _ _⟩
        · have ho : okRune 0 ((Utf8.decode a0 0).1 : Int) = false := okRune_first (by omega)
          have f1 : (decide (((Utf8.decode a0 0).1 : Int) ≤ 122)) = false := decide_eq_false (by omega)
          have f2 : (decide (((Utf8.decode a0 0).1 : Int) ≤ 90)) = false := decide_eq_false (by omega)
          have f3 : (decide (((Utf8.decode a0 0).1 : Int) ≤ 57)) = false := decide_eq_false (by omega)
          have f4 : (((Utf8.decode a0 0).1 : Int) == 95) = false := beq_eq_false_iff_ne.mpr (by omega)
          obtain rfl := right_false H hc hb hp ho
          go_wp2
          go_ret
          exact ⟨rfl, iter_below _ _ _⟩
      · have hz : ((pos : Int) == 0) = false := by simp; omega
        rcases hcl with ⟨d1, d2⟩ | ⟨d1, d2⟩ | ⟨d1, d2⟩ | ⟨d1, d2⟩ | ⟨d1, d2⟩ | ⟨d1, d2⟩ | ⟨d1, d2⟩ | ⟨d1, d2⟩ | ⟨d1, d2⟩
        · have ho : okRune pos ((Utf8.decode a0 pos).1 : Int) = true := okRune_letter (by omega)
          have f1 : (decide (((Utf8.decode a0 pos).1 : Int) ≤ 122)) = true := decide_eq_true (by omega)
          have f2 : (decide (((Utf8.decode a0 pos).1 : Int) ≤ 90)) = false := decide_eq_false (by omega)
          have f3 : (decide (((Utf8.decode a0 pos).1 : Int) ≤ 57)) = false := decide_eq_false (by omega)
          have f4 : (((Utf8.decode a0 pos).1 : Int) == 95) = false := beq_eq_false_iff_ne.mpr (by omega)
          go_wp2
          all_goals
            go_roundw
            case rel =>
              have z := rel_next (w := w) hc hb hp ho
              first | exact z | simpa using z
            case measure =>
              simp
              omega
        · have ho : okRune pos ((Utf8.decode a0 pos).1 : Int) = true := okRune_letter (by omega)
          have f1 : (decide (((Utf8.decode a0 pos).1 : Int) ≤ 122)) = true := decide_eq_true (by omega)
          have f2 : (decide (((Utf8.decode a0 pos).1 : Int) ≤ 90)) = true := decide_eq_true (by omega)
          have f3 : (decide (((Utf8.decode a0 pos).1 : Int) ≤ 57)) = false := decide_eq_false (by omega)
          have f4 : (((Utf8.decode a0 pos).1 : Int) == 95) = false := beq_eq_false_iff_ne.mpr (by omega)
          go_wp2
          all_goals
            go_roundw
            case rel =>
              have z := rel_next (w := w) hc hb hp ho
              first | exact z | simpa using z
            case measure =>
              simp
              omega
        · have ho : okRune pos ((Utf8.decode a0 pos).1 : Int) = true := okRune_digit (by omega) (by omega)
          have f1 : (decide (((Utf8.decode a0 pos).1 : Int) ≤ 122)) = true := decide_eq_true (by omega)
          have f2 : (decide (((Utf8.decode a0 pos).1 : Int) ≤ 90)) = true := decide_eq_true (by omega)
          have f3 : (decide (((Utf8.decode a0 pos).1 : Int) ≤ 57)) = true := decide_eq_true (by omega)
          have f4 : (((Utf8.decode a0 pos).1 : Int) == 95) = false := beq_eq_false_iff_ne.mpr (by omega)
          go_wp2
          all_goals
            go_roundw
            case rel =>
              have z := rel_next (w := w) hc hb hp ho
              first | exact z | simpa using z
            case measure =>
              simp
              omega
        · have ho : okRune pos ((Utf8.decode a0 pos).1 : Int) = true := okRune_digit (by omega) (by omega)
          have f1 : (decide (((Utf8.decode a0 pos).1 : Int) ≤ 122)) = true := decide_eq_true (by omega)
          have f2 : (decide (((Utf8.decode a0 pos).1 : Int) ≤ 90)) = false := decide_eq_false (by omega)
          have f3 : (decide (((Utf8.decode a0 pos).1 : Int) ≤ 57)) = false := decide_eq_false (by omega)
          have f4 : (((Utf8.decode a0 pos).1 : Int) == 95) = true := beq_iff_eq.mpr (by omega)
          go_wp2
          all_goals
            go_roundw
            case rel =>
              have z := rel_next (w := w) hc hb hp ho
              first | exact z | simpa using z
            case measure =>
              simp
              omega
        · have ho : okRune pos ((Utf8.decode a0 pos).1 : Int) = false := okRune_none (by omega) (by omega)
          have f1 : (decide (((Utf8.decode a0 pos).1 : Int) ≤ 122)) = true := decide_eq_true (by omega)
          have f2 : (decide (((Utf8.decode a0 pos).1 : Int) ≤ 90)) = true := decide_eq_true (by omega)
          have f3 : (decide (((Utf8.decode a0 pos).1 : Int) ≤ 57)) = true := decide_eq_true (by omega)
          have f4 : (((Utf8.decode a0 pos).1 : Int) == 95) = false := beq_eq_false_iff_ne.mpr (by omega)
          obtain rfl := right_false H hc hb hp ho
          go_wp2
          all_goals
            go_ret
            exact ⟨rfl, iter_below _ _ _⟩
        · have ho : okRune pos ((Utf8.decode a0 pos).1 : Int) = false := okRune_none (by omega) (by omega)
          have f1 : (decide (((Utf8.decode a0 pos).1 : Int) ≤ 122)) = true := decide_eq_true (by omega)
          have f2 : (decide (((Utf8.decode a0 pos).1 : Int) ≤ 90)) = true := decide_eq_true (by omega)
          have f3 : (decide (((Utf8.decode a0 pos).1 : Int) ≤ 57)) = false := decide_eq_false (by omega)
          have f4 : (((Utf8.decode a0 pos).1 : Int) == 95) = false := beq_eq_false_iff_ne.mpr (by omega)
          obtain rfl := right_false H hc hb hp ho
          go_wp2
          all_goals
            go_ret
            exact ⟨rfl, iter_below _ _ _⟩
        · have ho : okRune pos ((Utf8.decode a0 pos).1 : Int) = false := okRune_none (by omega) (by omega)
          have f1 : (decide (((Utf8.decode a0 pos).1 : Int) ≤ 122)) = true := decide_eq_true (by omega)
          have f2 : (decide (((Utf8.decode a0 pos).1 : Int) ≤ 90)) = false := decide_eq_false (by omega)
          have f3 : (decide (((Utf8.decode a0 pos).1 : Int) ≤ 57)) = false := decide_eq_false (by omega)
          have f4 : (((Utf8.decode a0 pos).1 : Int) == 95) = false := beq_eq_false_iff_ne.mpr (by omega)
          obtain rfl := right_false H hc hb hp ho
          go_wp2
          all_goals
            go_ret
            exact ⟨rfl, iter_below _ _ _⟩
        · have ho : okRune pos ((Utf8.decode a0 pos).1 : Int) = false := okRune_none (by omega) (by omega)
          have f1 : (decide (((Utf8.decode a0 pos).1 : Int) ≤ 122)) = true := decide_eq_true (by omega)
          have f2 : (decide (((Utf8.decode a0 pos).1 : Int) ≤ 90)) = false := decide_eq_false (by omega)
          have f3 : (decide (((Utf8.decode a0 pos).1 : Int) ≤ 57)) = false := decide_eq_false (by omega)
          have f4 : (((Utf8.decode a0 pos).1 : Int) == 95) = false := beq_eq_false_iff_ne.mpr (by omega)
          obtain rfl := right_false H hc hb hp ho
          go_wp2
          all_goals
            go_ret
            exact ⟨rfl, iter_below _ _ _⟩
        · have ho : okRune pos ((Utf8.decode a0 pos).1 : Int) = false := okRune_none (by omega) (by omega)
          have f1 : (decide (((Utf8.decode a0 pos).1 : Int) ≤ 122)) = false := decide_eq_false (by omega)
          have f2 : (decide (((Utf8.decode a0 pos).1 : Int) ≤ 90)) = false := decide_eq_false (by omega)
          have f3 : (decide (((Utf8.decode a0 pos).1 : Int) ≤ 57)) = false := decide_eq_false (by omega)
          have f4 : (((Utf8.decode a0 pos).1 : Int) == 95) = false := beq_eq_false_iff_ne.mpr (by omega)
          obtain rfl := right_false H hc hb hp ho
          go_wp2
          go_ret
          exact ⟨rfl, iter_below _ _ _⟩
    · have hnx : ∀ ty, (Instr.next (.pointer (some ⟨w.heap.size, 0, none⟩)) true ty).run Tryz.prog (w.iter a0 pos) = _ := fun ty => run_next_end w a0 pos ty hp
      have hk : runesOk a0 a0.size 0 = true := by rw [← hc]; exact runesOk_end a0 b pos hp
      have hf := H.out
      unfold rightO at hf
      rw [if_pos hk] at hf
      clear hc hb hp hk
      by_cases he : a0.toList = []
      · rw [if_pos he] at hf
        obtain rfl := Option.some.inj hf
        clear hf H
        have he2 : (!a0.toList.isEmpty) = false := by rw [he]; rfl
        go_wp2
        go_ret
        exact ⟨rfl, iter_below _ _ _⟩
      · rw [if_neg he] at hf
        have he2 : (!a0.toList.isEmpty) = true := by cases hl : a0.toList with | nil => exact absurd hl he | cons _ _ => rfl
        by_cases hs : (a0.size : Int) ≤ 12
        · rw [if_pos hs] at hf
          obtain rfl := Option.some.inj hf
          clear hf H
          go_wp2_with (go_at_fn 129)
          refine (HW.out a0 _ (iter_below w a0 pos)).mono ?_
          rintro e w' ⟨rfl, hb⟩
          go_wp2
          go_ret
          exact ⟨rfl, (iter_below w a0 pos).trans (hb.mono (iter_below w a0 pos).size)⟩
        · rw [if_neg hs] at hf
          obtain rfl := Option.some.inj hf
          clear hf H
          go_wp2
          go_ret
          exact ⟨rfl, iter_below _ _ _⟩

theorem glob_below {G : Nat → AV} {w w' : World} {S : Nat → Nat → Prop} (hG : GlobOk G w S) (hS : ∀ b i, S b i → b < w.heap.size) (hb : Below w.heap.size w w') : GlobOk G w' S :=
  ⟨fun n => (hG.1 n).imp id fun h => h.mono fun b i hs => ⟨hs, hb.cell (p := ⟨b, i, none⟩) (hS b i hs)⟩, hG.2.below hb⟩
theorem frepv {w : World} {S : Nat → Nat → Prop} {x y : Value} (h : FRep w S (.v x) y) : y = x := by cases h; rfl
theorem word_calls (hp : CallOk2 Tryz.prog powG prims) {S : Nat → Nat → Prop} (s : ByteArray) (w : World) (hS : ∀ b i, S b i → b < w.heap.size) (hG : GlobOk powG w S) : Calls Tryz.prog 129 #[.string s] w fun e w' => e = .returned (.bool (wordF s)) ∧ Below w.heap.size w w' := by
  obtain ⟨_, hc⟩ := (D_sound mixed defsOk hp).1 _ _ _ (d_word s)
  refine (hc w S #[.string s] hS hG rfl fun i c x hc hx => ?_).mono fun e w' ⟨y, he, hb, hr⟩ => ?_
  · match i with
    | 0 => cases hc; cases hx; exact .v rfl
    | n + 1 => cases hc
  · obtain ⟨ν, _, _, _, h4⟩ := hr 0 0
    have : y = .bool (wordF s) := h4.v_inv
    subst this
    exact ⟨he, hb⟩
/-- Which texts are names. -/
def rightF (s : ByteArray) : Bool := (rightO s).getD false
theorem rightO_eq (s : ByteArray) : rightO s = some (rightF s) := by
  unfold rightF rightO
  split
  · split
    · rfl
    · split <;> rfl
  · rfl
def primsR : Eng.Call := fun f args => match f, args with
  | 85, [.v (.string s)] => some (.v (.bool (rightF s)))
  | f, args => prims f args
theorem primsROk (hp : CallOk2 Tryz.prog powG prims) : CallOk2 Tryz.prog powG primsR := by
  refine ⟨fun f args r h => ?_, fun f ls xs r h => by
    unfold primsR at h
    split at h
    · rename_i he; cases he
    · exact hp.2 _ _ _ _ h⟩
  unfold primsR at h
  split at h
  · rename_i s
    obtain rfl := Option.some.inj h
    refine ⟨⟨_, Tryz.func85, by kernel_rfl, by kernel_rfl⟩, fun w S vargs hS hG hl ha => ?_⟩
    have hv0 : vargs[0]? = some (.string s) := by
      have := ha 0 _ (vargs[0]'(by simp at hl; omega)) rfl (Array.getElem?_eq_getElem _)
      rw [← frepv this]
      exact Array.getElem?_eq_getElem _
    have hva : vargs = #[.string s] := by
      apply Array.ext (by simpa using hl)
      intro i h1 h2
      match i, h2 with
      | 0, _ => simpa [Array.getElem?_eq_getElem h1] using hv0
    subst hva
    refine (right_calls s _ w (fun s w' hb => word_calls hp (S := S) s w' (fun b i h => Nat.lt_of_lt_of_le (hS b i h) hb.size) (glob_below hG hS hb)) (rightO_eq s)).mono ?_
    rintro e w' ⟨rfl, hb⟩
    refine ⟨_, rfl, hb, fun d j => ⟨fun _ => none, fun k b base h => (by cases h), fun k k' b i i' h => (by cases h), fun k x h => (by cases h), ?_⟩⟩
    exact FRep.v rfl
  · exact hp.1 _ _ _ h
end Go.Proofs.YtmhdapjmndfkgaaGreatDoor.Prim
