/- Which schemas are small. -/
import Derived.Test.YtmhdapjmndfkgaaGreatSkG
namespace Go.Proofs.YtmhdapjmndfkgaaGreat.Sk.B
open Go Go.Proofs.YtmhdapjmndfkgaaGreat.Eng Go.Proofs.YtmhdapjmndfkgaaGreat.Eng.V
set_option linter.unusedSimpArgs false
set_option linter.unusedVariables false
open Sk
open Sk.W (lt2 riseP sl xi_at wrap_succ wrap_nat wrap_pred)
theorem wrap_id {x : Int} (h0 : 0 ≤ x) (h : x < 4611686018427387904) : IntKind.i64.wrap x = x := by
  simp [IntKind.wrap, IntKind.bits, IntKind.signed]
  omega
structure SchB (s : Sch) : Prop where
  el : s.Enums.length < 281474976710656
  ml : s.Messages.length < 281474976710656
  en : ∀ e ∈ s.Enums, e.Values.length < 281474976710656 ∧ e.Name.size < 281474976710656
  ms : ∀ m ∈ s.Messages, m.Fields.length < 281474976710656 ∧ m.Barred.length < 281474976710656 ∧ m.Name.size < 281474976710656
def sE : List En → Int → Int
  | [], n => n
  | e :: r, n => if n < 200 then sE r (n + e.Values.length + (e.Name.size : Int) / 10) else n
def sM : List Ms → Int → Int
  | [], n => n
  | m :: r, n => if n < 200 then sM r (n + m.Fields.length + m.Barred.length + (m.Name.size : Int) / 10) else n
theorem R_small1 (s : Sch) (hb : SchB s) (n0 : Int) (h0 : 0 ≤ n0) (h1 : n0 < 2251799813685248) : R_ref15_Small_1 dd (fun _ => .undef) 281474976710656 281474976710656 [so s] (.ptr (1, 0) 0) (i64 0) (i64 n0) .undef = if 200 ≤ sM s.Messages n0 then some (bl false) else R_ref15_Small_3 dd (fun _ => .undef) 281474976710656 281474976710656 [so s] (i64 0) (.ptr (1, 0) 0) .undef := by
  have hml := hb.ml
  have h := loop_acc s.Messages (P := fun dn r m => ∀ n : Int, 0 ≤ n → n < 2251799813685248 → R_ref15_Small_1 dd (fun _ => .undef) 281474976710656 m [so s] (.ptr (1, 0) 0) (i64 dn.length) (i64 n) .undef = if 200 ≤ sM r n then some (bl false) else R_ref15_Small_3 dd (fun _ => .undef) 281474976710656 281474976710656 [so s] (i64 0) (.ptr (1, 0) 0) .undef) (by
    intro m n hn hn'
    rw [R_ref15_Small_1_s]
    by_cases h2 : 200 ≤ n <;> simp [X, Y, Z, k_ref15_Small_3, sM, h2]) (by
    intro dn x r m he hi hx ih n hn hn'
    rw [R_ref15_Small_1_s]
    rw [List.length_append] at ih
    push_cast at ih
    have hs := wrap_succ (show dn.length < 4611686018427387904 by omega)
    obtain ⟨b1, b2, b3⟩ := hb.ms x (mem_at hx)
    unfold sM
    by_cases h2 : n < 200
    · have w1 := wrap_id (x := n + x.Fields.length) (by omega) (by omega)
      have w2 := wrap_id (x := n + x.Fields.length + x.Barred.length) (by omega) (by omega)
      have w3 := wrap_id (x := n + x.Fields.length + x.Barred.length + (x.Name.size : Int) / 10) (by omega) (by omega)
      have w4 := wrap_id (x := (x.Name.size : Int) / 10) (by omega) (by omega)
      have := ih (n + x.Fields.length + x.Barred.length + (x.Name.size : Int) / 10) (by omega) (by omega)
      simp [X, Y, Z, hi, xi_at hx, eM, k_ref15_Small_1, hs, h2, w1, w2, w3, w4]
      simpa using this
    · have h3 : 200 ≤ n := by omega
      simp [X, Y, Z, hi, k_ref15_Small_3, h2, h3]) 281474976710656 (by omega)
  exact h n0 h0 h1
theorem R_small0 (s : Sch) (hb : SchB s) (n0 : Int) (h0 : 0 ≤ n0) (h1 : n0 < 1125899906842624) : R_ref15_Small_0 dd (fun _ => .undef) 281474976710656 281474976710656 [so s] (.ptr (1, 0) 0) (i64 0) (i64 n0) .undef = if 200 ≤ sM s.Messages (sE s.Enums n0) then some (bl false) else R_ref15_Small_3 dd (fun _ => .undef) 281474976710656 281474976710656 [so s] (i64 0) (.ptr (1, 0) 0) .undef := by
  have hml := hb.el
  have h := loop_acc s.Enums (P := fun dn r m => ∀ n : Int, 0 ≤ n → n < 1125899906842624 → R_ref15_Small_0 dd (fun _ => .undef) 281474976710656 m [so s] (.ptr (1, 0) 0) (i64 dn.length) (i64 n) .undef = if 200 ≤ sM s.Messages (sE r n) then some (bl false) else R_ref15_Small_3 dd (fun _ => .undef) 281474976710656 281474976710656 [so s] (i64 0) (.ptr (1, 0) 0) .undef) (by
    intro m n hn hn'
    rw [R_ref15_Small_0_s]
    have h0 := R_small1 s hb n hn (by omega)
    simp [X, Y, Z, k_ref15_Small_1, sE]
    exact h0) (by
    intro dn x r m he hi hx ih n hn hn'
    rw [R_ref15_Small_0_s]
    rw [List.length_append] at ih
    push_cast at ih
    have hs := wrap_succ (show dn.length < 4611686018427387904 by omega)
    obtain ⟨b1, b3⟩ := hb.en x (mem_at hx)
    unfold sE
    by_cases h2 : n < 200
    · have w1 := wrap_id (x := n + x.Values.length) (by omega) (by omega)
      have w3 := wrap_id (x := n + x.Values.length + (x.Name.size : Int) / 10) (by omega) (by omega)
      have w4 := wrap_id (x := (x.Name.size : Int) / 10) (by omega) (by omega)
      have := ih (n + x.Values.length + (x.Name.size : Int) / 10) (by omega) (by omega)
      simp [X, Y, Z, hi, xi_at hx, eE, k_ref15_Small_0, hs, h2, w1, w3, w4]
      simpa using this
    · have h0 := R_small1 s hb n hn (by omega)
      simp [X, Y, Z, hi, k_ref15_Small_1, h2]
      simpa using h0) 281474976710656 (by omega)
  exact h n0 h0 h1
def longV (v : Vl) : Bool := decide ((1000 : Int) < v.Name.size)
def longF (f : Fld) : Bool := decide ((1000 : Int) < f.Name.size) || (decide ((1000 : Int) < f.Ref.size) || decide ((1000 : Int) < f.One.size))
abbrev big : Nat := 281474976710656
theorem R_small4 (s : Sch) (hb : SchB s) (m5 i : Nat) (e : Ms) (hx : s.Messages[i]? = some e) : R_ref15_Small_4 dd (fun _ => .undef) 281474976710656 281474976710656 m5 [so s] (i64 i) (.ptr (1, 0) 0) (i64 0) = if e.Fields.any longF = true then some (bl false) else R_ref15_Small_5 dd (fun _ => .undef) 281474976710656 m5 [so s] (i64 ((i : Int) + 1)) (.ptr (1, 0) 0) := by
  have hml := hb.ml
  have hi' : i < 281474976710656 := by have := (List.getElem?_eq_some_iff.1 hx).1; omega
  have hs' := wrap_succ (show i < 4611686018427387904 by omega)
  have hf := (hb.ms e (mem_at hx)).1
  have h := loop_acc e.Fields (P := fun dn r m => R_ref15_Small_4 dd (fun _ => .undef) 281474976710656 m m5 [so s] (i64 i) (.ptr (1, 0) 0) (i64 dn.length) = if r.any longF = true then some (bl false) else R_ref15_Small_5 dd (fun _ => .undef) 281474976710656 m5 [so s] (i64 ((i : Int) + 1)) (.ptr (1, 0) 0)) (by
    intro m
    rw [R_ref15_Small_4_s]
    simp [X, Y, Z, xi_at hx, eM, k_ref15_Small_5, hs']) (by
    intro dn x r m he hi hy ih
    rw [R_ref15_Small_4_s]
    rw [List.length_append] at ih
    push_cast at ih
    have hs := wrap_succ (show dn.length < 4611686018427387904 by omega)
    rw [List.any_cons]
    cases q1 : decide ((1000 : Int) < x.Name.size) <;> cases q2 : decide ((1000 : Int) < x.Ref.size) <;> cases q3 : decide ((1000 : Int) < x.One.size)
    · rw [show longF x = false by unfold longF; rw [q1, q2, q3]; rfl]
      simp [X, Y, Z, hi, xi_at hx, xi_at hy, eM, Fld.cells, k_ref15_Small_4, hs, q1, q2, q3]
      simpa using ih
    all_goals (
      rw [show longF x = true by unfold longF; rw [q1, q2, q3]; rfl]
      simp [X, Y, Z, hi, xi_at hx, xi_at hy, eM, Fld.cells, k_ref15_Small_4, hs, q1, q2, q3])) 281474976710656 (by omega)
  exact h
theorem R_small5 (s : Sch) (hb : SchB s) : R_ref15_Small_5 dd (fun _ => .undef) 281474976710656 281474976710656 [so s] (i64 0) (.ptr (1, 0) 0) = some (bl (!s.Messages.any fun m => m.Fields.any longF)) := by
  have hml := hb.ml
  have h := loop_acc s.Messages (P := fun dn r m => R_ref15_Small_5 dd (fun _ => .undef) 281474976710656 m [so s] (i64 dn.length) (.ptr (1, 0) 0) = some (bl (!r.any fun m => m.Fields.any longF))) (by
    intro m
    rw [R_ref15_Small_5_s]
    simp [X, Y, Z]) (by
    intro dn x r m he hi hx ih
    rw [R_ref15_Small_5_s]
    rw [List.length_append] at ih
    push_cast at ih
    have h0 := R_small4 s hb m dn.length x hx
    simp [X, Y, Z, hi, k_ref15_Small_4]
    rw [h0]
    cases hc : x.Fields.any longF <;> simp
    simpa using ih) 281474976710656 (by omega)
  exact h
theorem R_small2 (s : Sch) (hb : SchB s) (m3 i : Nat) (e : En) (hx : s.Enums[i]? = some e) : R_ref15_Small_2 dd (fun _ => .undef) 281474976710656 281474976710656 m3 [so s] (i64 i) (.ptr (1, 0) 0) (i64 0) .undef = if e.Values.any longV = true then some (bl false) else R_ref15_Small_3 dd (fun _ => .undef) 281474976710656 m3 [so s] (i64 ((i : Int) + 1)) (.ptr (1, 0) 0) .undef := by
  have hml := hb.el
  have hi' : i < 281474976710656 := by have := (List.getElem?_eq_some_iff.1 hx).1; omega
  have hs' := wrap_succ (show i < 4611686018427387904 by omega)
  have hf := (hb.en e (mem_at hx)).1
  have h := loop_acc e.Values (P := fun dn r m => R_ref15_Small_2 dd (fun _ => .undef) 281474976710656 m m3 [so s] (i64 i) (.ptr (1, 0) 0) (i64 dn.length) .undef = if r.any longV = true then some (bl false) else R_ref15_Small_3 dd (fun _ => .undef) 281474976710656 m3 [so s] (i64 ((i : Int) + 1)) (.ptr (1, 0) 0) .undef) (by
    intro m
    rw [R_ref15_Small_2_s]
    simp [X, Y, Z, xi_at hx, eE, k_ref15_Small_3, hs']) (by
    intro dn x r m he hi hy ih
    rw [R_ref15_Small_2_s]
    rw [List.length_append] at ih
    push_cast at ih
    have hs := wrap_succ (show dn.length < 4611686018427387904 by omega)
    rw [List.any_cons]
    by_cases q1 : (1000 : Int) < x.Name.size
    · rw [show longV x = true by unfold longV; rw [decide_eq_true_eq]; exact q1]
      simp [X, Y, Z, hi, xi_at hx, xi_at hy, eE, eV, k_ref15_Small_2, hs, q1]
    · rw [show longV x = false by unfold longV; rw [decide_eq_false_iff_not]; exact q1]
      simp [X, Y, Z, hi, xi_at hx, xi_at hy, eE, eV, k_ref15_Small_2, hs, q1]
      simpa using ih) 281474976710656 (by omega)
  exact h
theorem R_small3 (s : Sch) (hb : SchB s) : R_ref15_Small_3 dd (fun _ => .undef) 281474976710656 281474976710656 [so s] (i64 0) (.ptr (1, 0) 0) .undef = some (bl (!(s.Enums.any fun e => e.Values.any longV) && !s.Messages.any fun m => m.Fields.any longF)) := by
  have hml := hb.el
  have h := loop_acc s.Enums (P := fun dn r m => R_ref15_Small_3 dd (fun _ => .undef) 281474976710656 m [so s] (i64 dn.length) (.ptr (1, 0) 0) .undef = some (bl (!(r.any fun e => e.Values.any longV) && !s.Messages.any fun m => m.Fields.any longF))) (by
    intro m
    rw [R_ref15_Small_3_s]
    have h0 := R_small5 s hb
    simp [X, Y, Z, k_ref15_Small_5]
    exact h0) (by
    intro dn x r m he hi hx ih
    rw [R_ref15_Small_3_s]
    rw [List.length_append] at ih
    push_cast at ih
    have h0 := R_small2 s hb m dn.length x hx
    simp [X, Y, Z, hi, k_ref15_Small_2]
    rw [h0]
    cases hc : x.Values.any longV <;> simp
    simpa using ih) 281474976710656 (by omega)
  exact h
def smallF (s : Sch) : Bool := !decide (200 ≤ sM s.Messages (sE s.Enums ((s.Enums.length : Int) + s.Messages.length))) && (!(s.Enums.any fun e => e.Values.any longV) && !s.Messages.any fun m => m.Fields.any longF)
theorem d_rSmall (s : Sch) (hb : SchB s) : dd i_ref15_Small [sch s] = some (bl (smallF s)) := by
  refine D_runE (V := v_ref15_Small) 281474976710656 rfl rfl rfl ?_
  rw [s_ref15_Small]
  have b1 := hb.el
  have b2 := hb.ml
  have h0 := R_small0 s hb ((s.Enums.length : Int) + s.Messages.length) (by omega) (by omega)
  rw [R_small3 s hb] at h0
  have w := wrap_id (x := (s.Enums.length : Int) + s.Messages.length) (by omega) (by omega)
  simp [X, Y, Z, k_ref15_Small_0, w]
  refine h0.trans ?_
  unfold smallF
  by_cases h : 200 ≤ sM s.Messages (sE s.Enums ((s.Enums.length : Int) + s.Messages.length)) <;> simp [h]
end Go.Proofs.YtmhdapjmndfkgaaGreat.Sk.B
