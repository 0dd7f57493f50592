/- Without a message. -/
import Derived.Test.YtmhdapjmndfkgaaScE
namespace Go.Proofs.Ytmhdapjmndfkgaa.Sc.B
open Go Go.Proofs.Ytmhdapjmndfkgaa.Eng Go.Proofs.Ytmhdapjmndfkgaa.Eng.V
set_option linter.unusedSimpArgs false
set_option linter.unusedVariables false
open Sc
open Sc.W (lt2 riseP sl xi_at wrap_succ wrap_nat wrap_pred)
abbrev useN (nm : ByteArray) (f : Fld) : Bool := decide (f.Ty = 15) && decide (f.Ref = nm)
abbrev so2 (s : Sch) : Key × Ob := ((2, 0), .var [.fsl (s.Enums.map eE), .fsl (s.Messages.map eM)] false)
theorem ownK_ne {sz : Nat} {α : Type} {e : α → List AV} {l : List α} (h : l ≠ []) : ownK sz e l = .own sz true (l.map e) := by cases l <;> simp_all [ownK]
theorem less_cells (s : Sch) (i : Nat) : (s.Messages.map eM).take i ++ ((s.Messages.map eM).drop (i + 1)).take (s.Messages.length - (i + 1)) = (less s i).Messages.map eM := by
  rw [List.take_of_length_le (l := (s.Messages.map eM).drop (i + 1)) (by rw [List.length_drop, List.length_map]; exact Nat.le_refl _)]
  show _ = List.map eM (s.Messages.take i ++ s.Messages.drop (i + 1))
  rw [List.map_append, List.map_take, List.map_drop]
theorem less_len {s : Sch} {i : Nat} (hi : i < s.Messages.length) : (less s i).Messages.length = s.Messages.length - 1 := by
  show (s.Messages.take i ++ s.Messages.drop (i + 1)).length = _
  rw [List.length_append, List.length_take, List.length_drop]; omega
theorem less_ok {s : Sch} (ok : SchOk s) {i : Nat} : SchOk (less s i) := by
  have hs := less_sub s i
  exact ⟨ok.enums, Nat.lt_of_le_of_lt hs.length_le ok.messages, ok.en, fun m hm => ok.mf m (hs.mem hm), fun m hm => ok.mb m (hs.mem hm)⟩
theorem R_lessEnd (s : Sch) (ok : SchOk s) (i : Nat) (mi : Ms) (hi : s.Messages[i]? = some mi) (hc : sCheckF s = 0) (hf : free s i mi.Name) (N m : Nat) : R_law15_SchemaLess_1 dd (fun _ => .undef) N (m + 1) [so2 s] (i64 i) (.ptr (2, 0) 0) (i64 s.Messages.length) .undef .undef .undef = some (bl true) := by
  rw [R_law15_SchemaLess_1_s]
  have hlt : i < s.Messages.length := (List.getElem?_eq_some_iff.1 hi).1
  have hne : s.Messages ≠ [] := by intro h; rw [h] at hlt; simp at hlt
  have o1 := ok.messages
  have e1 := d_rCopy s ok
  rw [ownK_ne hne] at e1
  have e2 := d_sCheck (less s i) (less_ok ok)
  have n0 := d_num (i64 0) ⟨rfl, trivial⟩
  have hs := wrap_succ (show i < 4611686018427387904 by omega)
  have h0 : 0 < s.Messages.length := by omega
  have h1 : i ≤ s.Messages.length := by omega
  have h2 : (i : Int) + 1 ≤ s.Messages.length := by omega
  have h3 : i + (s.Messages.length - (i + 1)) < s.Messages.length := by omega
  have h4 : s.Messages.length * 64 ≤ 70368744177664 := by omega
  have h5 : i + 1 + (s.Messages.length - (i + 1)) ≤ s.Messages.length := by omega
  have hcl := less_cells s i
  have hll := less_len hlt
  unfold sch at e2
  rw [show (less s i).Enums = s.Enums from rfl] at e2
  have hO : (ownK 2 eE s.Enums = .fsl [] ∧ s.Enums.map eE = []) ∨ ownK 2 eE s.Enums = .own 2 true (s.Enums.map eE) := by cases s.Enums <;> simp [ownK]
  have h6 : (0 : Int) ≤ (i : Int) + 1 := by omega
  by_cases hl : (less s i).Messages = []
  · rw [less_none hc hl, hl] at e2
    rw [hl] at hcl
    rcases hO with ⟨q1, q2⟩ | q1
    · rw [q1] at e1
      rw [q2] at e2
      simp [X, Y, Z, e1, hs, lk_M, h0, h1, h2, h6, Xt, cutV, subF, mapT, mapA, mapO, h3, h4, h5, hcl]
      simp only [List.map_nil] at e2
      simp [X, Y, Z, e2, n0, d_live]
    · rw [q1] at e1
      simp [X, Y, Z, e1, hs, lk_M, h0, h1, h2, h6, Xt, cutV, subF, mapT, mapA, mapO, h3, h4, h5, hcl]
      simp only [List.map_nil] at e2
      simp [X, Y, Z, e2, n0, d_live]
  · rw [less_check hi hc hf hl] at e2
    rcases hO with ⟨q1, q2⟩ | q1
    · rw [q1] at e1
      rw [q2] at e2
      simp [X, Y, Z, e1, hs, lk_M, h0, h1, h2, h6, Xt, cutV, subF, mapT, mapA, mapO, h3, h4, h5, hcl]
      simp [X, Y, Z, e2, n0, d_live, hl]
    · rw [q1] at e1
      simp [X, Y, Z, e1, hs, lk_M, h0, h1, h2, h6, Xt, cutV, subF, mapT, mapA, mapO, h3, h4, h5, hcl]
      simp [X, Y, Z, e2, n0, d_live, hl]
theorem R_less0 (s : Sch) (ok : SchOk s) (i k : Nat) (mi mk : Ms) (hi : s.Messages[i]? = some mi) (hk : s.Messages[k]? = some mk) (m1 : Nat) : R_law15_SchemaLess_0 dd (fun _ => .undef) 1001 1001 m1 [so2 s] (i64 i) (.ptr (2, 0) 0) (i64 k) (i64 0) .undef .undef .undef = if (!decide (k = i) && mk.Fields.any (useN mi.Name)) = true then some (bl true) else R_law15_SchemaLess_1 dd (fun _ => .undef) 1001 m1 [so2 s] (i64 i) (.ptr (2, 0) 0) (i64 ((k : Int) + 1)) .undef .undef .undef := by
  have hf := ok.mf mk (mem_at hk)
  have o1 := ok.messages
  have hk' : k < s.Messages.length := (List.getElem?_eq_some_iff.1 hk).1
  have hsk := wrap_succ (show k < 4611686018427387904 by omega)
  have h := loop_acc mk.Fields (P := fun dn r m => R_law15_SchemaLess_0 dd (fun _ => .undef) 1001 m m1 [so2 s] (i64 i) (.ptr (2, 0) 0) (i64 k) (i64 dn.length) .undef .undef .undef = if (!decide (k = i) && r.any (useN mi.Name)) = true then some (bl true) else R_law15_SchemaLess_1 dd (fun _ => .undef) 1001 m1 [so2 s] (i64 i) (.ptr (2, 0) 0) (i64 ((k : Int) + 1)) .undef .undef .undef) (by
    intro m
    rw [R_law15_SchemaLess_0_s]
    simp [X, Y, Z, xi_at hk, eM, hsk, k_law15_SchemaLess_1, inK]) (by
    intro dn x r m he hd hx ih
    rw [R_law15_SchemaLess_0_s]
    rw [List.length_append] at ih
    push_cast at ih
    have hs := wrap_succ (show dn.length < 4611686018427387904 by omega)
    rw [List.any_cons]
    by_cases q1 : k = i
    · subst q1
      simp [X, Y, Z, hd, xi_at hk, xi_at hx, eM, Fld.cells, hs, k_law15_SchemaLess_0, inK] at ih ⊢
      exact ih
    · have q1' : ¬ (k : Int) = (i : Int) := by omega
      by_cases q2 : x.Ty = 15
      · by_cases q3 : x.Ref = mi.Name
        · simp [X, Y, Z, hd, xi_at hk, xi_at hx, xi_at hi, eM, Fld.cells, hs, k_law15_SchemaLess_0, inK, q1, q1', q2, q3, d_live]
        · simp [X, Y, Z, hd, xi_at hk, xi_at hx, xi_at hi, eM, Fld.cells, hs, k_law15_SchemaLess_0, inK, q1, q1', q2, q3] at ih ⊢
          exact ih
      · simp [X, Y, Z, hd, xi_at hk, xi_at hx, eM, Fld.cells, hs, k_law15_SchemaLess_0, inK, q1, q1', q2] at ih ⊢
        exact ih) 1001 (by omega)
  exact h
theorem R_less1 (s : Sch) (ok : SchOk s) (i : Nat) (mi : Ms) (hi : s.Messages[i]? = some mi) (hc : sCheckF s = 0) : R_law15_SchemaLess_1 dd (fun _ => .undef) 1001 1001 [so2 s] (i64 i) (.ptr (2, 0) 0) (i64 0) .undef .undef .undef = some (bl true) := by
  have o1 := ok.messages
  have h := loop_acc s.Messages (P := fun dn r m => (∀ (k : Nat) (x : Ms), k ≠ i → dn[k]? = some x → x.Fields.any (useN mi.Name) = false) → R_law15_SchemaLess_1 dd (fun _ => .undef) 1001 m [so2 s] (i64 i) (.ptr (2, 0) 0) (i64 dn.length) .undef .undef .undef = some (bl true)) (by
    intro m hf
    exact R_lessEnd s ok i mi hi hc (fun k x hk hx => hf k x hk hx) 1001 m) (by
    intro dn x r m he hd hx ih hf
    rw [R_law15_SchemaLess_1_s]
    have h0 := R_less0 s ok i dn.length mi x hi hx m
    simp [X, Y, Z, hd, k_law15_SchemaLess_0, inK] at h0 ⊢
    rw [h0]
    split
    · rfl
    · rename_i hn
      have ih := ih (fun k y hk hy => by
        by_cases hlt : k < dn.length
        · rw [List.getElem?_append_left hlt] at hy; exact hf k y hk hy
        · rw [List.getElem?_append_right (by omega)] at hy
          have : k = dn.length := by
            have := (List.getElem?_eq_some_iff.1 hy).1
            simp at this; omega
          subst this
          rw [Nat.sub_self] at hy
          cases hy
          cases hu : x.Fields.any (useN mi.Name) with
          | false => rfl
          | true =>
            exfalso
            apply hn
            refine ⟨hk, ?_⟩
            obtain ⟨f, hf1, hf2⟩ := List.any_eq_true.1 hu
            exact ⟨f, hf1, by simpa using hf2⟩)
      rw [List.length_append] at ih
      push_cast at ih
      exact ih) 1001 (by omega)
  exact h fun k x _ hx => by simp at hx
theorem d_SchemaLess (s : Sch) (hb : SchB s) (n : Int) (h0 : 0 ≤ n) (h1 : n < 256) : dd i_law15_SchemaLess [sch s, .v (.int .u8 n)] = some (bl true) := by
  refine D_runE (V := v_law15_SchemaLess) 1001 rfl rfl rfl ?_
  rw [s_law15_SchemaLess]
  have e0 := d_rSmall s hb
  have n0 := d_num (i64 0) ⟨rfl, trivial⟩
  cases h : smallF s <;> rw [h] at e0
  · simp [X, Y, Z, e0, d_live]
  · have ok := small_ok s h
    have e1 := d_sCheck s ok
    by_cases hc : sCheckF s = 0
    · rw [hc] at e1
      obtain ⟨_, h2, _⟩ := check_parts hc
      have hm : s.Messages.length ≠ 0 := by
        unfold noneF at h2
        simp only [Bool.or_eq_false_iff, decide_eq_false_iff_not] at h2
        exact h2.1
      have o1 := ok.messages
      obtain ⟨u, rfl⟩ : ∃ u : Nat, n = u := ⟨n.toNat, by omega⟩
      have hw := wrap_nat (show u < 4611686018427387904 by omega)
      have hi : u % s.Messages.length < s.Messages.length := Nat.mod_lt _ (by omega)
      have hr := R_less1 s ok (u % s.Messages.length) _ (List.getElem?_eq_getElem hi) hc
      have hmod : ((u : Int).tmod (s.Messages.length : Int)) = ((u % s.Messages.length : Nat) : Int) := by rw [Int.ofNat_tmod]
      have hm' : s.Messages ≠ [] := by intro h; rw [h] at hm; exact hm rfl
      simp [X, Y, Z, e0, e1, n0, hw, hm', hmod, k_law15_SchemaLess_1, inK]
      push_cast at hr
      exact hr
    · simp [X, Y, Z, e0, e1, n0, hc, d_live]
theorem law_SchemaLess (l0 l1 : List AV) (h0 : AvT Try.prog 25 l0) (h1 : AvT Try.prog 5 l1) : D defs Prim.primsG (fun _ => .undef) i_law15_SchemaLess [argA true l0, argA false l1] = some (.v (.bool true)) := by
  obtain ⟨s, e, hb⟩ := sch_inv l0 h0
  obtain ⟨n, rfl, hn⟩ := h1.int_inv Try.underlying5
  show dd i_law15_SchemaLess [AV.agg l0, .v (.int .u8 n)] = _
  rw [e]
  have hn' : 0 ≤ n ∧ n < 256 := by
    simp only [Lit.wf, Bool.and_eq_true, decide_eq_true_eq] at hn
    have m0 : IntKind.u8.min = 0 := by decide
    have m1 : IntKind.u8.max = 255 := by decide
    omega
  exact d_SchemaLess s hb n hn'.1 hn'.2
end Go.Proofs.Ytmhdapjmndfkgaa.Sc.B
