/- A copy. -/
import Derived.Test.YtmhdapjmndfkgaaScD
namespace Go.Proofs.Ytmhdapjmndfkgaa.Sc.B
open Go Go.Proofs.Ytmhdapjmndfkgaa.Eng Go.Proofs.Ytmhdapjmndfkgaa.Eng.V
set_option linter.unusedSimpArgs false
set_option linter.unusedVariables false
open Sc
open Sc.W (lt2 riseP sl xi_at wrap_succ wrap_nat wrap_pred)
/-! ### a copy -/
theorem lk_V (l : List Vl) : lenOk 2 (l.map eV) = true := lenOk_map eV (fun _ => rfl) l
theorem lk_F (l : List Fld) : lenOk 7 (l.map Fld.cells) = true := lenOk_map Fld.cells (fun _ => rfl) l
theorem lk_I (l : List Int) : lenOk 1 (l.map eI) = true := lenOk_map eI (fun _ => rfl) l
theorem lk_E (l : List En) : lenOk 2 (l.map eE) = true := lenOk_map eE (fun _ => rfl) l
theorem lk_M (l : List Ms) : lenOk 3 (l.map eM) = true := lenOk_map eM (fun _ => rfl) l
def kC (q : Nat) {α : Type} (e : α → List AV) : List α → AV
  | [] => .nilsl
  | l => .asl (q, 0) (l.map e)
def kY (q : Nat) {α : Type} (e : α → List AV) : List α → AV
  | [] => .undef
  | l => .asl (q, 0) (l.map e)
def kO (q sz : Nat) {α : Type} : List α → List (Key × Ob)
  | [] => []
  | l => [((q, 0), .tail l.length sz false false)]
theorem kC_app {q : Nat} {α : Type} {e : α → List AV} (l : List α) (x : α) : kC q e (l ++ [x]) = .asl (q, 0) (l.map e ++ [e x]) := by cases l <;> simp [kC]
theorem kY_app {q : Nat} {α : Type} {e : α → List AV} (l : List α) (x : α) : kY q e (l ++ [x]) = .asl (q, 0) (l.map e ++ [e x]) := by cases l <;> simp [kY]
theorem kO_app {q sz : Nat} {α : Type} (l : List α) (x : α) : kO q sz (l ++ [x]) = [((q, 0), .tail (l.length + 1) sz false false)] := by cases l <;> simp [kO]
def ownK (sz : Nat) {α : Type} (e : α → List AV) : List α → AV
  | [] => .fsl []
  | l => .own sz true (l.map e)
abbrev o2 : List (Key × Ob) := [((2, 0), .var [.asl (2, 1) [], .asl (2, 2) []] false), ((2, 1), .tail 0 2 false false), ((2, 2), .tail 0 3 false false)]
abbrev o3 (a b : AV) : List (Key × Ob) := [((3, 0), .var [a, b] false), ((3, 1), .tail 0 2 false false), ((3, 2), .tail 0 3 false false)]
theorem R_copy1 (s : Sch) (ok : SchOk s) : R_ref15_Copy_1 dd (fun _ => .undef) 1001 1001 (so s :: (o2 ++ o3 (kC 33 eE s.Enums) .nilsl ++ kO 33 2 s.Enums)) (.ptr (3, 0) 0) (.ptr (1, 0) 0) (.ptr (2, 0) 0) (i64 0) .undef .undef .undef (kY 33 eE s.Enums) .undef = some (.agg [ownK 2 eE s.Enums, ownK 3 eM s.Messages]) := by
  have h := loop_acc s.Messages (P := fun dn r m => R_ref15_Copy_1 dd (fun _ => .undef) 1001 m (so s :: (o2 ++ o3 (kC 33 eE s.Enums) (kC 61 eM dn) ++ kO 33 2 s.Enums ++ kO 61 3 dn)) (.ptr (3, 0) 0) (.ptr (1, 0) 0) (.ptr (2, 0) 0) (i64 dn.length) .undef .undef .undef (kY 33 eE s.Enums) (kY 61 eM dn) = some (.agg [ownK 2 eE s.Enums, ownK 3 eM s.Messages])) (by
    intro m
    rw [R_ref15_Copy_1_s]
    cases hE : s.Enums <;> cases hM : s.Messages <;> simp [X, Y, Z, kC, kY, kO, ownK, hE, hM]) (by
    intro dn x r m he hi hx ih
    rw [R_ref15_Copy_1_s]
    rw [List.length_append, kC_app, kY_app, kO_app] at ih
    push_cast at ih
    have o1 := ok.messages
    have f1 := ok.mf x (mem_at hx)
    have f2 := ok.mb x (mem_at hx)
    have g1 : x.Fields.length * 72 ≤ 70368744177664 := by omega
    have g2 : x.Barred.length * 8 ≤ 70368744177664 := by omega
    rcases dn with _ | ⟨d0, ds⟩
    · have hx' : s.Messages[0]? = some x := hx
      have hx2 := fun (k : List AV → Out) (u : Tag k) => xi_at (e := eM) (k := k) (u := u) hx'
      have hp : 0 < s.Messages.length := by simpa using hi
      have w0 : IntKind.i64.wrap 1 = 1 := by decide
      have hx2 := fun (k : List AV → Out) (u : Tag k) => (show Xi (s.Messages.map eM) 0 k u = k (eM x) from hx2 k u)
      cases hE : s.Enums <;> rw [hE] at ih <;> simp [X, Y, Z, kC, kY, kO, k_ref15_Copy_1, inK, hp, hx2, eM, w0, g1, g2, lk_F, lk_I] at ih ⊢ <;> exact ih
    · have hx2 := fun (k : List AV → Out) (u : Tag k) => xi_at (e := eM) (k := k) (u := u) hx
      have hp : ((ds.length : Int) + 1 < s.Messages.length) := by rw [List.length_cons] at hi; omega
      have hs := wrap_succ (show ds.length + 1 < 4611686018427387904 by rw [List.length_cons] at hi; omega)
      have g3 : (ds.length + 1 + 1) * 64 ≤ 70368744177664 := by rw [List.length_cons] at hi; omega
      rw [List.length_cons] at hx2
      push_cast at hs hx2
      cases hE : s.Enums <;> rw [hE] at ih <;> simp [X, Y, Z, kC, kY, kO, k_ref15_Copy_1, inK, hp, hx2, eM, hs, g1, g2, g3, lk_F, lk_I] at ih ⊢ <;> exact ih) 1001 (by have := ok.messages; omega)
  simpa [kC, kY, kO] using h
theorem R_copy0 (s : Sch) (ok : SchOk s) : R_ref15_Copy_0 dd (fun _ => .undef) 1001 1001 (so s :: (o2 ++ o3 .nilsl .nilsl)) (.ptr (3, 0) 0) (.ptr (1, 0) 0) (.ptr (2, 0) 0) (i64 0) .undef .undef .undef .undef .undef .undef .undef .undef = some (.agg [ownK 2 eE s.Enums, ownK 3 eM s.Messages]) := by
  have h := loop_acc s.Enums (P := fun dn r m => R_ref15_Copy_0 dd (fun _ => .undef) 1001 m (so s :: (o2 ++ o3 (kC 33 eE dn) .nilsl ++ kO 33 2 dn)) (.ptr (3, 0) 0) (.ptr (1, 0) 0) (.ptr (2, 0) 0) (i64 dn.length) .undef .undef .undef .undef .undef .undef .undef (kY 33 eE dn) = some (.agg [ownK 2 eE s.Enums, ownK 3 eM s.Messages])) (by
    intro m
    rw [R_ref15_Copy_0_s]
    have h1 := R_copy1 s ok
    cases hE : s.Enums with
    | nil =>
      rw [hE] at h1
      simp only [kC, kY, kO, List.append_nil, List.cons_append, List.nil_append, List.append_assoc, so, o3, hE, List.map_nil] at h1
      simp [X, Y, Z, kC, kY, kO, k_ref15_Copy_1, inK, hE]
      exact h1
    | cons e0 es =>
      rw [hE] at h1
      simp only [kC, kY, kO, List.append_nil, List.cons_append, List.nil_append, List.append_assoc, List.map_cons, List.length_cons, so, o3, hE] at h1
      simp [X, Y, Z, kC, kY, kO, k_ref15_Copy_1, inK, hE]
      exact h1) (by
    intro dn x r m he hi hx ih
    rw [R_ref15_Copy_0_s]
    rw [List.length_append, kC_app, kY_app, kO_app] at ih
    push_cast at ih
    have o1 := ok.enums
    have f1 := ok.en x (mem_at hx)
    have g1 : x.Values.length * 24 ≤ 70368744177664 := by omega
    rcases dn with _ | ⟨d0, ds⟩
    · have hx' : s.Enums[0]? = some x := hx
      have hx2 := fun (k : List AV → Out) (u : Tag k) => xi_at (e := eE) (k := k) (u := u) hx'
      have hp : 0 < s.Enums.length := by simpa using hi
      have w0 : IntKind.i64.wrap 1 = 1 := by decide
      have hx2 := fun (k : List AV → Out) (u : Tag k) => (show Xi (s.Enums.map eE) 0 k u = k (eE x) from hx2 k u)
      simp [X, Y, Z, kC, kY, kO, k_ref15_Copy_0, inK, hp, hx2, eE, w0, g1, lk_V] at ih ⊢
      exact ih
    · have hx2 := fun (k : List AV → Out) (u : Tag k) => xi_at (e := eE) (k := k) (u := u) hx
      have hp : ((ds.length : Int) + 1 < s.Enums.length) := by rw [List.length_cons] at hi; omega
      have hs := wrap_succ (show ds.length + 1 < 4611686018427387904 by rw [List.length_cons] at hi; omega)
      have g3 : (ds.length + 1 + 1) * 40 ≤ 70368744177664 := by rw [List.length_cons] at hi; omega
      rw [List.length_cons] at hx2
      push_cast at hs hx2
      simp [X, Y, Z, kC, kY, kO, k_ref15_Copy_0, inK, hp, hx2, eE, hs, g1, g3, lk_V] at ih ⊢
      exact ih) 1001 (by have := ok.enums; omega)
  simpa [kC, kY, kO] using h
theorem d_rCopy (s : Sch) (ok : SchOk s) : dd i_ref15_Copy [sch s] = some (.agg [ownK 2 eE s.Enums, ownK 3 eM s.Messages]) := by
  refine D_runE (V := v_ref15_Copy) 1001 rfl rfl rfl ?_
  rw [s_ref15_Copy]
  have h := R_copy0 s ok
  simp [X, Y, Z, k_ref15_Copy_0, inK] at h ⊢
  exact h
end Go.Proofs.Ytmhdapjmndfkgaa.Sc.B
